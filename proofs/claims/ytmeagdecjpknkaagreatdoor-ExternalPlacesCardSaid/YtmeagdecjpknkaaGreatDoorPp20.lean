/- Part 20 of a proof of a law of this seat: no statement of the seat is proved here. -/
import Derived.Test.YtmeagdecjpknkaaGreatDoorPp19
import Derived.Test.YtmeagdecjpknkaaGreatDoorPp18
import Derived.Test.YtmeagdecjpknkaaGreatDoorPp16
import Derived.Test.YtmeagdecjpknkaaGreatDoorPp17
set_option linter.unusedVariables false
set_option linter.unusedSimpArgs false
namespace Go.Proofs
open Go Go.Sx
attribute [local irreducible] Go.Sx.Tri
structure Clu (V0 V:Mem) (out gs os:Sl) (zs:List Int) (F:List Bool) (O:List Int):Prop where
 oo:Sx.Own V0 V 3 1 out (zs.flatMap qAd)
 og:Sx.Own V0 V 4 1 gs (F.flatMap qCY)
 os_:Sx.Own (fun _=>none) V 3 1 os (O.flatMap qAd)
 d1:∀c,Blk os c->¬Blk out c
section
variable{V0 V V':Mem}{out gs os s:Sl}{zs O xs:List Int}{F:List Bool}
theorem qEQ{W W':Mem}{a b:Sl}{u v:List Value}(h:Sx.Own W V 3 1 a u)(k:Sx.Own W' V 4 1 b v){c:Nat}(hc:Blk a c):¬Blk b c:=fun hb=>by
 obtain⟨c1,h1⟩:=Own.some h hc
 obtain⟨c2,h2⟩:=Own.some k hb
 rw[h1]at h2
 exact ntBool c1 c2 (Option.some.inj h2)
theorem qBq{W:Mem}{e:Nat}{a:Sl}{u:List Value}(h:Sx.Own W V e 1 a u){c:Nat}(hc:Blk a c):V c≠none:=by
 obtain⟨cur,h⟩:=Own.some h hc
 rw[h];simp
theorem Clu.grow(h:Clu V0 V out gs os zs F O)(hs:V.sub V'):Clu V0 V' out gs os zs F O:=⟨Own.growS h.oo hs,Own.growS h.og hs,Own.growS h.os_ hs,h.d1⟩
theorem Clu.mark(h:Clu V0 V out gs os zs F O){j:Nat}(hj:j<F.length){Q:Mem->Prop}(hq:∀V',Clu V0 V' out gs os zs (F.set j true) O->Q V'):StT (qAa gs.p (j*1)) 0 [.bool true] V Q:=by
 rw[Nat.mul_one]
 refine Own.store h.og (i:=j) (by rw[qIC];exact hj) fun V' o hk=>hq V' ?_
 rw[qIB]at o
 exact⟨Own.moveB h.oo o.sub fun g cur hg hc=>by rw[hk g (qEQ h.oo h.og hg)];exact hc,o,qBS h.os_ fun c hc=>hk c (qEQ h.os_ h.og hc),h.d1⟩
theorem Clu.place(h:Clu V0 V out gs os zs F O)(hs:Sx.Own (fun _=>none) V 3 1 s (xs.flatMap qAd))(hd:∀c,Blk s c->¬Blk out c){j:Nat}{b:Int}(hj:j<zs.length){Q:Mem->Prop}(hq:∀V',Clu V0 V' out gs os (zs.set j b) F O->Sx.Own (fun _=>none) V' 3 1 s (xs.flatMap qAd)->Q V'):StT (qAa out.p (j*1)) 0 [.int .i64 b] V Q:=by
 rw[Nat.mul_one]
 refine Own.store h.oo (i:=j) (by rw[qEa];exact hj) fun V' o hk=>?_
 rw[qDZ]at o
 exact hq V' ⟨o,Own.moveB h.og o.sub fun g cur hg hc=>by rw[hk g fun hb=>qEQ h.oo h.og hb hg];exact hc,qBS h.os_ fun c hc=>hk c (h.d1 c hc),h.d1⟩ (qBS hs fun c hc=>hk c (hd c hc))
end
section
variable{V:Mem}{d:Ds}{m:Mm}{size:Nat}
theorem spreadC{V1:Mem}{out gs os:Sl}{zs O:List Int}{F:List Bool}{b:Nat}{n:Int}{but:List Int}(hv:qAz d=true)(hmv:qAs d m=true)(hd:Ds.Ok V d)(hm:Mm.Ok V m)(C:Clu V V1 out gs os zs F O)(hb:V1 b=none)(hF:qDO m.nodes.length F but [n])(hn:1<=n/\n<=(m.nodes.length:Int))(hgs:∃g,gs=⟨some ⟨g,0,none⟩,m.nodes.length+1,m.nodes.length+1⟩) :
  Tri Tryz.prog 83 #[d.v,m.v,.slice (sa b) 1 1,gs.v,.int .i64 size] (V1.set b (.cells #[.int .i64 n] 3 (0,0))) fun e V'=>∃s:Sl,e=.returned s.v/\∃F',Clu V V' out gs os zs F' O/\qDO m.nodes.length F' but (qCG d m [n] size but)/\Sx.Own (fun _=>none) V' 3 1 s ((qCG d m [n] size but).flatMap qAd)/\∀c,Blk s c->¬Blk out c:=by
 have s1:=Mem.sub_new hb (.cells #[.int .i64 n] 3 (0,0))
 obtain⟨U,hU⟩:∃U,U=V1.set b (.cells #[.int .i64 n] 3 (0,0)):=⟨_,rfl⟩
 have hUb:U b=some (.cells #[.int .i64 n] 3 (0,0)):=by rw[hU];exact Mem.set_same _ _ _
 rw[<- hU]at s1 ⊢
 have C1:=C.grow s1
 obtain⟨M,hM⟩:∃M:Nat->Prop,M=fun c=>c=b∨Blk gs c:=⟨_,rfl⟩
 have hMV:∀c,M c->V c=none:=fun c hc=>by
  rw[hM]at hc
  rcases hc with rfl|hc
  ·cases e:V c with
   | none=>rfl
   | some o=>rw[C.oo.sub _ _ e]at hb;cases hb
  ·exact Own.none0 C.og hc
 have hVW:V.sub (Mem.minus U M):=fun c o hc=>by
  rw[qCK fun h=>by rw[hMV c h]at hc;cases hc]
  exact C1.oo.sub _ _ hc
 have T:Two (Mem.minus U M) U ⟨some ⟨b,0,none⟩,1,1⟩ gs [n] F:=by
  refine⟨⟨qEv,rfl,.inr ⟨b,_,rfl,qFW (by rw[hM];exact .inl rfl),hUb,Nat.le_refl _,(show 1<=maxLen by decide),rfl,rfl⟩⟩,⟨qEv,C1.og.len,?_⟩⟩
  rcases C1.og.cases0 with h1|⟨hc,g,cur,h1,h2,h3,h4⟩
  ·exact .inl h1
  ·exact .inr ⟨g,cur,h1,qFW (by rw[hM];exact .inr ⟨hc,h1⟩),h3,h4⟩
 refine Tri.mono (c83 (l:=⟨some ⟨b,0,none⟩,1,1⟩) (most:=size) hv hmv (hd.sub hVW) (hm.sub hVW) T hF (Nds.nil.snoc hn (by simp)) hgs) ?_
 rintro _ V2 ⟨s,rfl,F',T2,hF2⟩
 have sW:=T2.ol.sub
 have nb:∀{c:Nat},V1 c≠none->¬Blk gs c->V2 c=U c:=fun {c} h1 h2=>by
  have hM':¬M c:=fun h=>by
   rw[hM]at h
   rcases h with rfl|h
   ·exact h1 hb
   ·exact h2 h
  cases e:U c with
  | none =>
   cases e1:V1 c with
   | none=>exact absurd e1 h1
   | some o=>rw[s1 _ _ e1]at e;cases e
  | some o=>exact sW _ _ (by rw[qCK hM'];exact e)
 refine⟨s,rfl,F',⟨Own.moveB C1.oo (hVW.trans sW) fun g cur hg hc=>?_,T2.og.narrow hVW,qBS C1.os_ fun c hc=>nb (qBq C.os_ hc) (qEQ C.os_ C.og hc),C.d1⟩,hF2,qBD T2.ol,fun c hc ho=>?_⟩
 ·rw[nb (qBq C.oo hg) (qEQ C.oo C.og hg)];exact hc
 ·have h0:=Own.none0 T2.ol hc
  have h1:=qBq C.oo ho
  have hM':¬M c:=fun h=>by
   rw[hM]at h
   rcases h with rfl|h
   ·exact h1 hb
   ·exact qEQ C.oo C.og ho h
  rw[qCK hM']at h0
  exact qBq C1.oo ho h0
theorem c45[Tab V](hv:qAz d=true)(hmv:qAs d m=true)(hd:Ds.Ok V d)(hm:Mm.Ok V m){k:Int}(hk:1<=k/\k<=4)(hs:1<=size/\size<=64) :
  Tri Tryz.prog 45 #[d.v,m.v,.int .i64 k,.int .i64 size] V fun e V'=>∃(s:Sl) (zs:List Int),e=.returned s.v/\Sx.Own V V' 3 1 s (zs.flatMap qAd)/\qAQ d m k size zs:=by
 obtain⟨R,hR⟩:∃R:Ending->Mem->Prop,R=fun e V'=>∃(s:Sl) (zs:List Int),e=.returned s.v/\Sx.Own V V' 3 1 s (zs.flatMap qAd)/\qAQ d m k size zs:=⟨_,rfl⟩
 rw[<- hR]
 refine x45 ?_
 unfold w45
 obtain⟨p1,hN,p3,p4,p5⟩:=qAh hmv
 have hns:=hm.nodes.n_eq
 rw[hns]
 refine mk31 (n:=m.nodes.length) rfl rfl (by omega) fun g hg=>⟨⟨some ⟨g,0,none⟩,m.nodes.length,m.nodes.length⟩,rfl,?_⟩
 have C0:=qHC hg (n:=m.nodes.length) (by omega)
 obtain⟨V1,hV1⟩:∃V1,V1=V.set g (.cells (madeCells ((Value.int .i64 0).cells) (m.nodes.length*1)) 3 (0,0)):=⟨_,rfl⟩
 rw[<- hV1]at C0 ⊢
 obtain⟨out,hout⟩:∃out:Sl,out=⟨some ⟨g,0,none⟩,m.nodes.length,m.nodes.length⟩:=⟨_,rfl⟩
 rw[<- hout]at C0 ⊢
 refine Tri.mono (c80 (V0:=V1) (l:=⟨none,0,0⟩) (xs:=[]) (Own.nil (Mem.sub.refl _) _ _) Nds.nil hN hns) ?_
 rintro _ V2 ⟨o0,rfl,ho0⟩
 have C2:=Own.growS C0 ho0.sub
 have hd2:=hd.sub C2.sub
 have hm2:=hm.sub C2.sub
 haveI:Tab V2:=Tab.sub (V:=V) inferInstance C2.sub
 have ok:=qHD hmv k
 have far:∀{U U':Mem} {q:Sl} {ys:List Int},V1.sub U->Sx.Own U U' 3 1 q (ys.flatMap qAd)->∀c,Blk q c->¬Blk out c:=fun {U U' q ys} hs o c hc ho=>by
  have h0:=Own.none0 o hc
  obtain⟨cur,h⟩:=Own.some C0 ho
  rw[hs _ _ h]at h0;cases h0
 have fin:k<4->∀V' zs',Sx.Own V V' 3 1 out (zs'.flatMap qAd)->qEG m.nodes.length (qBX d m k) size zs'->R (rV (uL out)) V':=fun h V' zs' o P=>by
  rw[hR]
  exact⟨out,zs',rfl,o,by unfold qAQ;rw[if_pos h];exact P⟩
 refine⟨o0,rfl,fun c=>?_,fun c2=>⟨fun c=>?_,fun c3=>⟨fun c=>?_,fun c4=>?_⟩⟩⟩
 ·have c:k=2:=c
  refine Tri.mono (c81 hmv hd2 hm2) ?_
  rintro _ V3 ⟨s,rfl,o3⟩
  have e:qBX d m k=qBA d m:=by unfold qBX;rw[if_neg (by omega),if_pos c]
  rw[e]at ok fin
  exact⟨s,rfl,qEM (Own.growS C2 o3.sub) List.length_replicate (qBD o3) (far ho0.sub o3) ok.1 hN hs.1 (fin (by omega))⟩
 ·have c:k=3:=c
  refine Tri.mono (c82 hv hmv hd2 hm2) ?_
  rintro _ V3 ⟨s,rfl,o3⟩
  have e:qBX d m k=qIQ d m:=by unfold qBX;rw[if_neg (by omega),if_neg (by omega)]
  rw[e]at ok fin
  exact⟨s,rfl,qEM (Own.growS C2 o3.sub) List.length_replicate (qBD o3) (far ho0.sub o3) ok.1 hN hs.1 (fin (by omega))⟩
 ·have c:k=4:=c
  obtain⟨N,hNd⟩:∃N,N=m.nodes.length:=⟨_,rfl⟩
  refine⟨⟨by omega,by omega⟩,mk162 (n:=m.nodes.length+1) rfl rfl (by omega) fun g2 hg2=>⟨⟨some ⟨g2,0,none⟩,m.nodes.length+1,m.nodes.length+1⟩,rfl,?_⟩⟩
  have B0:=qIj hg2 (n:=m.nodes.length+1) (by omega)
  obtain⟨V3,hV3⟩:∃V3,V3=V2.set g2 (.cells (madeCells ((Value.bool false).cells) ((m.nodes.length+1)*1)) 4 (0,0)):=⟨_,rfl⟩
  rw[<- hV3]at B0 ⊢
  obtain⟨gs,hgs⟩:∃gs:Sl,gs=⟨some ⟨g2,0,none⟩,m.nodes.length+1,m.nodes.length+1⟩:=⟨_,rfl⟩
  rw[<- hgs]at B0 ⊢
  haveI:Tab V3:=Tab.sub (V:=V2) inferInstance B0.sub
  refine Tri.mono (c81 hmv (hd2.sub B0.sub) (hm2.sub B0.sub)) ?_
  rintro _ V4 ⟨os,rfl,o4⟩
  refine⟨os,rfl,?_⟩
  have dok:=qFy hmv
  have CL0:Clu V V4 out gs os (List.replicate m.nodes.length 0) (List.replicate (m.nodes.length+1) false) (qBA d m):=⟨Own.growS C2 (B0.sub.trans o4.sub),(Own.growS B0 o4.sub).narrow C2.sub,qBD o4,far (ho0.sub.trans B0.sub) o4⟩
  have hOl:=dok.1.len
  -- the clusters of the first nodes of the order
  refine⟨fun n ys V5=>∃(i:Nat) (cls:List (List Int)) (zs:List Int) (F:List Bool),ys=[.int .i64 cls.length,.int .i64 i]/\i<=(qBA d m).length/\n=(qBA d m).length-i/\cls=((qBA d m).take i).foldl (qIW d m size) []/\CluI m.nodes.length size cls/\Clu V V5 out gs os zs F (qBA d m)/\qJg m.nodes.length size cls zs/\qDO m.nodes.length F cls.flatten [],(qBA d m).length,⟨0,[],_,_,rfl,Nat.zero_le _,rfl,rfl,⟨Nds.nil,by simp⟩,CL0,⟨List.length_replicate,by simp⟩,⟨List.length_replicate,fun j hj=>by rw[List.getElem?_replicate,if_pos hj];simp⟩⟩,?_⟩
  rintro n V5 v16 v17 ⟨i,cls,zs,F,hys,hi,rfl,hcl,hI,CL,hOf,hF⟩ J hJ
  simp only[List.cons.injEq,Value.int.injEq,true_and,and_true]at hys
  obtain⟨rfl,rfl⟩:=hys
  have hor:=CL.os_.rows (row:=qAd) (xs:=qBA d m) (fun _=>rfl) (by decide)
  have hcll:=hI.len
  refine⟨fun hlt=>?_,fun hge=>?_⟩
  ·obtain⟨x,hxm,hx,-,hil,hp,hz,hrow⟩:=hor.get hlt
   have hxr:=dok.1.rng x hxm
   have hsu:=hor.succ hlt
   have e:((qBA d m).take (i+1)).foldl (qIW d m size) []=qIW d m size cls x:=by rw[qAO hx,List.foldl_append,<- hcl];rfl
   obtain⟨I1,-,-⟩:=hI.step hmv hs.1 hxr
   obtain⟨j,rfl⟩:∃j:Nat,x=(j:Int):=⟨x.toNat,by omega⟩
   obtain⟨b1,b2,b3,b4⟩:=bool_at (CL.og.rows (fun _=>rfl) (by decide)) (hF.2 j (by omega))
   refine⟨hp,hz,hlt,_,hrow,b1,b2,b3,_,b4,fun c=>⟨hsu,hJ ((qBA d m).length-(i+1)) _ _ (by omega) ⟨i+1,cls,zs,F,rfl,hil,rfl,?_,hI,CL,hOf,hF⟩⟩,fun c=>⟨b1,b2,b3,?_⟩⟩
   ·have c:(j:Int)∈cls.flatten∨(j:Int)∈[]:=of_decide_eq_true c
    rw[e];unfold qIW
    rw[if_pos (c.resolve_right (by simp))]
   ·have c:¬((j:Int)∈cls.flatten∨(j:Int)∈[]):=fun h=>c (decide_eq_true h)
    have hnot:(j:Int) ∉ cls.flatten:=fun h=>c (.inl h)
    have ec:qIW d m size cls (j:Int)=cls++[qCG d m [(j:Int)] size cls.flatten]:=by unfold qIW;rw[if_neg hnot]
    obtain⟨w1,w2,w3,w4⟩:=clu_new hmv hs.1 hxr hnot
    refine CL.mark (j:=j) (by rw[hF.1];omega) fun V6 CL6 b hb=>?_
    refine Tri.mono (spreadC (size:=size) (b:=b) (n:=(j:Int)) (but:=cls.flatten) hv hmv hd hm CL6 hb (hF.mark (by omega)) hxr ⟨g2,hgs⟩) ?_
    rintro _ V8 ⟨s8,rfl,F8,CL8,hF8,os8,hd8⟩
    refine⟨s8,rfl,?_⟩
    obtain⟨W,hW⟩:∃W,W=qCG d m [(j:Int)] size cls.flatten:=⟨_,rfl⟩
    rw[<- hW]at hF8 os8 ec w1 w2 w3 w4
    refine qJb W.length (fun t V9=>∃zs':List Int,Clu V V9 out gs os zs' F8 (qBA d m)/\Sx.Own (fun _=>none) V9 3 1 s8 (W.flatMap qAd)/\qJg m.nodes.length size cls zs'/\∀y∈W.take t,zs'[(y-1).toNat]?=some ((cls.length:Nat):Int)) ⟨zs,CL8,os8,hOf,by simp⟩ ?_
    rintro t V9 J1 ht ⟨zs9,CL9,os9,hOf9,hall9⟩ hJ1
    have hwr:=os9.rows (row:=qAd) (xs:=W) (fun _=>rfl) (by decide)
    have hzr:=CL9.oo.rows (row:=qAd) (xs:=zs9) (fun _=>rfl) (by decide)
    refine⟨fun hlt9=>?_,fun hge9=>?_⟩
    ·obtain⟨y,hym,hy,-,htl,hp9,hz9,hrow9⟩:=hwr.get hlt9
     have hyr:=w1.rng y hym
     obtain⟨q,hq⟩:∃q:Nat,y-1=(q:Int):=⟨(y-1).toNat,by omega⟩
     have hzl:=hOf9.len
     obtain⟨c1,c2,c3,-⟩:=qCj hzr (List.getElem?_eq_getElem (show q<zs9.length by omega))
     refine⟨hp9,hz9,hlt9,_,hrow9,⟨by omega,by omega⟩,c1,by omega,by omega,?_⟩
     rw[hq,Int.toNat_natCast]
     refine CL9.place os9 hd8 (j:=q) (by omega) fun V10 CL10 os10=>⟨hwr.succ hlt9,hJ1 htl _ ⟨_,CL10,os10,⟨by rw[List.length_set];exact hzl,fun a c' hc' z hz'=>?_⟩,fun z hz'=>?_⟩⟩
     ·have hne:z≠y:=fun h=>w3 y hym (by rw[<- h];exact List.mem_flatten.2 ⟨c',List.mem_of_getElem? hc',hz'⟩)
      have hzr':=hI.nds.rng z (List.mem_flatten.2 ⟨c',List.mem_of_getElem? hc',hz'⟩)
      rw[List.getElem?_set_ne (by omega)]
      exact hOf9.at_ a c' hc' z hz'
     ·by_cases h:z=y
      ·rw[h,hq,Int.toNat_natCast,List.getElem?_set_self (by omega)]
      ·rw[qAO hy]at hz'
       have hz':z∈W.take t:=by
        rcases List.mem_append.1 hz' with h1|h1
        ·exact h1
        ·exact absurd (List.mem_singleton.1 h1) h
       have hzr':=w1.rng z (List.mem_of_mem_take hz')
       rw[List.getElem?_set_ne (by omega)]
       exact hall9 z hz'
    ·have hd9:=(hwr.done hge9).2
     rw[List.take_of_length_le hd9]at hall9
     have hI1:=I1
     rw[ec]at hI1
     have hl1:=hI1.len
     rw[List.length_append,List.length_singleton]at hl1
     refine⟨⟨by omega,by omega⟩,hsu,hJ ((qBA d m).length-(i+1)) _ _ (by omega) ⟨i+1,cls++[W],zs9,F8,?_,hil,rfl,by rw[e,ec],hI1,CL9,⟨hOf9.len,fun a c' hc' z hz'=>?_⟩,⟨hF8.1,fun a ha=>?_⟩⟩⟩
     ·rw[List.length_append,List.length_singleton];rfl
     ·by_cases h:a<cls.length
      ·rw[List.getElem?_append_left h]at hc'
       exact hOf9.at_ a c' hc' z hz'
      ·rw[List.getElem?_append_right (by omega)]at hc'
       have ha0:a-cls.length=0:=by
        have:=(List.getElem?_eq_some_iff.1 hc').1
        rw[List.length_singleton]at this;omega
       rw[ha0]at hc'
       cases hc'
       rw[hall9 z hz',show a=cls.length by omega]
     ·rw[hF8.2 a ha]
      congr 1
      rw[List.flatten_append,List.flatten_singleton]
      simp
  ·have hdn:=(hor.done hge).2
   rw[List.take_of_length_le hdn]at hcl
   rw[hR]
   refine⟨out,zs,rfl,CL.oo,?_⟩
   unfold qAQ
   rw[if_neg (by omega)]
   rw[hcl]at hOf;exact hOf
 ·have c2:¬k=2:=c2
  have c3:¬k=3:=c3
  have c4:¬k=4:=c4
  have e:qBX d m k=qGz [] m.nodes.length:=by unfold qBX;rw[if_pos (by omega)]
  rw[e]at ok fin
  exact qEM C2 List.length_replicate (qBD ho0) (far (Mem.sub.refl _) ho0) ok.1 hN hs.1 (fin (by omega))
end
def plF(d:Ds)(m:Mm)(k size:Int):Int:=if qAs d m=true then (if 1<=k/\k<=4/\1<=size/\size<=64 then 0 else 2) else 1
structure Cl3 (V0 V:Mem) (out dn os:Sl) (zs D O:List Int):Prop where
 oo:Sx.Own V0 V 3 1 out (zs.flatMap qAd)
 od:Sx.Own V0 V 3 1 dn (D.flatMap qAd)
 oq:Sx.Own (fun _=>none) V 3 1 os (O.flatMap qAd)
 d1:∀c,Blk dn c->¬Blk out c
 d2:∀c,Blk os c->¬Blk out c
 d3:∀c,Blk os c->¬Blk dn c
section
variable{V0 V V':Mem}{out dn os s:Sl}{zs D O xs:List Int}
theorem Cl3.grow(h:Cl3 V0 V out dn os zs D O)(hs:V.sub V'):Cl3 V0 V' out dn os zs D O:=⟨Own.growS h.oo hs,Own.growS h.od hs,Own.growS h.oq hs,h.d1,h.d2,h.d3⟩
theorem Cl3.place(h:Cl3 V0 V out dn os zs D O)(hs:Sx.Own (fun _=>none) V 3 1 s (xs.flatMap qAd))(hd:∀c,Blk s c->¬Blk out c){j:Nat}{b:Int}(hj:j<zs.length){Q:Mem->Prop}(hq:∀V',Cl3 V0 V' out dn os (zs.set j b) D O->Sx.Own (fun _=>none) V' 3 1 s (xs.flatMap qAd)->Q V'):StT (qAa out.p (j*1)) 0 [.int .i64 b] V Q:=by
 rw[Nat.mul_one]
 refine Own.store h.oo (i:=j) (by rw[qEa];exact hj) fun V' o hk=>?_
 rw[qDZ]at o
 exact hq V' ⟨o,Own.moveB h.od o.sub fun g cur hg hc=>by rw[hk g (h.d1 g hg)];exact hc,qBS h.oq fun c hc=>hk c (h.d2 c hc),h.d1,h.d2,h.d3⟩ (qBS hs fun c hc=>hk c (hd c hc))
theorem Cl3.push(h:Cl3 V0 V out dn os zs D O){dn':Sl}{D':List Value}(o:Sx.Own (V.but dn) V' 3 1 dn' D'){Q:List Int}(e:D'=Q.flatMap qAd):Cl3 V0 V' out dn' os zs Q O:=by
 obtain⟨h1,h2,h3⟩:=qDS h.od o
 subst e
 refine⟨Own.moveB h.oo h1.sub fun g cur hg hc=>?_,h1,qBS h.oq fun c hc=>h2 c (h.d3 c hc) (qBq h.oq hc),fun c hc ho=>?_,h.d2,fun c hc hn=>?_⟩
 ·rw[h2 g (fun hb=>h.d1 g hb hg) (qBq h.oo hg)];exact hc
 ·exact(h3 c hc).elim (fun hb=>h.d1 c hb ho) (qBq h.oo ho)
 ·exact(h3 c hn).elim (h.d3 c hc) (qBq h.oq hc)
end
section
variable{V:Mem}{d:Ds}{m:Mm}{size:Nat}
theorem own_one{V:Mem}{b:Nat}(hb:V b=none){x:Int}:Sx.Own V (V.set b (.cells #[.int .i64 x] 3 (0,0))) 3 1 ⟨some ⟨b,0,none⟩,1,1⟩ ([x].flatMap qAd) :=
 ⟨Mem.sub_new hb _,rfl,.inr ⟨b,_,rfl,hb,Mem.set_same _ _ _,Nat.le_refl _,(show 1<=maxLen by decide),rfl,rfl⟩⟩
theorem c14[Tab V](hd:Ds.Ok V d)(hm:Mm.Ok V m){k size:Int} :
  Tri Tryz.prog 14 #[d.v,m.v,.int .i64 k,.int .i64 size] V fun e V'=>∃s:Sl,e=.returned (.tuple #[s.v,.int .i64 (plF d m k size)])/\V.sub V'/\(plF d m k size≠0->s.n=0)/\(plF d m k size=0->∃zs,Sx.Own V V' 3 1 s (zs.flatMap qAd)/\qAQ d m k size.toNat zs):=by
 obtain⟨R,hR⟩:∃R:Ending->Mem->Prop,R=fun e V'=>∃s:Sl,e=.returned (.tuple #[s.v,.int .i64 (plF d m k size)])/\V.sub V'/\(plF d m k size≠0->s.n=0)/\(plF d m k size=0->∃zs,Sx.Own V V' 3 1 s (zs.flatMap qAd)/\qAQ d m k size.toNat zs):=⟨_,rfl⟩
 rw[<- hR]
 refine x14 ?_
 unfold w14
 have bad:∀f:Int,f≠0->plF d m k size=f->R (.returned (.tuple #[.slice none 0 0,.int .i64 f])) V:=fun f h0 hf=>by
  rw[hR]
  exact⟨⟨none,0,0⟩,by rw[hf];rfl,Mem.sub.refl _,fun _=>rfl,fun h=>absurd (hf.symm.trans h) h0⟩
 refine(c44 hd hm).call ⟨_,rfl,fun hmv=>?_,fun h=>bad 1 (by decide) (by unfold plF;rw[if_neg h])⟩
 have out:¬(1<=k/\k<=4/\1<=size/\size<=64)->R (.returned (.tuple #[.slice none 0 0,.int .i64 2])) V:=fun h=>bad 2 (by decide) (by unfold plF;rw[if_pos hmv,if_neg h])
 refine⟨fun h=>out (by omega),fun h1=>⟨fun h=>out (by omega),fun h2=>⟨fun h=>out (by omega),fun h3=>⟨fun h=>out (by omega),fun h4=>?_⟩⟩⟩⟩
 obtain⟨z,rfl⟩:∃z:Nat,size=(z:Int):=⟨size.toNat,by omega⟩
 refine Tri.mono (c45 (size:=z) (by grind [qAs,qKE]) hmv hd hm (k:=k) (by omega) (by omega)) ?_
 rintro _ V2 ⟨s,zs,rfl,o,P⟩
 have e:plF d m k z=0:=by unfold plF;rw[if_pos hmv,if_pos (by omega)]
 refine⟨s,rfl,?_⟩
 rw[hR]
 exact⟨s,by rw[e];rfl,o.sub,fun h=>absurd e h,fun _=>⟨zs,o,by rw[Int.toNat_natCast];exact P⟩⟩
theorem c17(hv:qAz d=true)(hmv:qAs d m=true)(hd:Ds.Ok V d)(hm:Mm.Ok V m){k:Int}(hk:1<=k/\k<=4)(hs:1<=size/\size<=64) :
  Tri Tryz.prog 17 #[d.v,m.v,.int .i64 k,.int .i64 size] V fun e V'=>∃(s:Sl) (zs:List Int),e=.returned s.v/\Sx.Own V V' 3 1 s (zs.flatMap qAd)/\qAQ d m k size zs:=by
 obtain⟨R,hR⟩:∃R:Ending->Mem->Prop,R=fun e V'=>∃(s:Sl) (zs:List Int),e=.returned s.v/\Sx.Own V V' 3 1 s (zs.flatMap qAd)/\qAQ d m k size zs:=⟨_,rfl⟩
 rw[<- hR]
 refine x17 ?_
 unfold w17
 obtain⟨p1,hN,p3,p4,p5⟩:=qAh hmv
 have hns:=hm.nodes.n_eq
 rw[hns]
 refine mk31 (n:=m.nodes.length) rfl rfl (by omega) fun g hg=>⟨⟨some ⟨g,0,none⟩,m.nodes.length,m.nodes.length⟩,rfl,?_⟩
 have C0:=qHC hg (n:=m.nodes.length) (by omega)
 obtain⟨V1,hV1⟩:∃V1,V1=V.set g (.cells (madeCells ((Value.int .i64 0).cells) (m.nodes.length*1)) 3 (0,0)):=⟨_,rfl⟩
 rw[<- hV1]at C0 ⊢
 obtain⟨out,hout⟩:∃out:Sl,out=⟨some ⟨g,0,none⟩,m.nodes.length,m.nodes.length⟩:=⟨_,rfl⟩
 rw[<- hout]at C0 ⊢
 have hd1:=hd.sub C0.sub
 have hm1:=hm.sub C0.sub
 have far:∀{U U':Mem} {q:Sl} {ys:List Int},V1.sub U->Sx.Own U U' 3 1 q (ys.flatMap qAd)->∀c,Blk q c->¬Blk out c:=fun {U U' q ys} hs o c hc ho=>by
  have h0:=Own.none0 o hc
  obtain⟨cur,h⟩:=Own.some C0 ho
  rw[hs _ _ h]at h0;cases h0
 refine⟨fun c=>?_,fun c=>?_⟩
 ·have ok:=qHD hmv k
  refine Tri.mono (c48 hv hmv hd1 hm1 (k:=k) (by omega)) ?_
  rintro _ V3 ⟨s,rfl,o3⟩
  exact⟨s,rfl,qEM (Own.growS C0 o3.sub) List.length_replicate (qBD o3) (far (Mem.sub.refl _) o3) ok.1 hN hs.1 fun V' zs' o P=>by
   rw[hR]
   exact⟨out,zs',rfl,o,by unfold qAQ;rw[if_pos c];exact P⟩⟩
 ·refine Tri.mono (c48 hv hmv hd1 hm1 (k:=2) (by omega)) ?_
  rintro _ V4 ⟨os,rfl,o4⟩
  have e2:qBX d m 2=qBA d m:=by unfold qBX;rw[if_neg (by omega),if_pos rfl]
  rw[e2]at o4
  refine⟨os,rfl,?_⟩
  have dok:=qFy hmv
  have hOl:=dok.1.len
  have CL0:Cl3 V V4 out ⟨none,0,0⟩ os (List.replicate m.nodes.length 0) [] (qBA d m):=⟨Own.growS C0 o4.sub,Own.nil (C0.sub.trans o4.sub) _ _,qBD o4,fun c h=>absurd rfl h.1,far (Mem.sub.refl _) o4,fun c _ h=>absurd rfl h.1⟩
  refine⟨fun n ys V5=>∃(i:Nat) (dn:Sl) (cls:List (List Int)) (zs:List Int),ys=[dn.v,.int .i64 cls.length,.int .i64 i]/\i<=(qBA d m).length/\n=(qBA d m).length-i/\cls=((qBA d m).take i).foldl (qIW d m size) []/\CluI m.nodes.length size cls/\Cl3 V V5 out dn os zs cls.flatten (qBA d m)/\qJg m.nodes.length size cls zs,(qBA d m).length,⟨0,⟨none,0,0⟩,[],_,rfl,Nat.zero_le _,rfl,rfl,⟨Nds.nil,by simp⟩,CL0,⟨List.length_replicate,by simp⟩⟩,?_⟩
  rintro n V5 v14 v15 v16 ⟨i,dn,cls,zs,hys,hi,rfl,hcl,hI,CL,hOf⟩ J hJ
  simp only[List.cons.injEq,Value.int.injEq,true_and,and_true]at hys
  obtain⟨h5,rfl,rfl⟩:=hys
  cases qBk _ _ h5
  have hor:=CL.oq.rows (row:=qAd) (xs:=qBA d m) (fun _=>rfl) (by decide)
  have hdr:=CL.od.rows (row:=qAd) (xs:=cls.flatten) (fun _=>rfl) (by decide)
  have hcll:=hI.len
  have hfl:=hI.nds.len
  refine⟨fun hlt=>?_,fun hge=>?_⟩
  ·obtain⟨x,hxm,hx,-,hil,hp,hz,hrow⟩:=hor.get hlt
   have hxr:=dok.1.rng x hxm
   have hsu:=hor.succ hlt
   have e:((qBA d m).take (i+1)).foldl (qIW d m size) []=qIW d m size cls x:=by rw[qAO hx,List.foldl_append,<- hcl];rfl
   obtain⟨I1,-,-⟩:=hI.step hmv hs.1 hxr
   refine⟨hp,hz,hlt,_,hrow,(c49 (x:=x) hdr).call ⟨_,rfl,fun c2=>⟨hsu,hJ ((qBA d m).length-(i+1)) _ _ (by omega) ⟨i+1,v14,cls,zs,rfl,hil,rfl,?_,hI,CL,hOf⟩⟩,fun c2=>⟨hp,hz,hlt,_,hrow,fun b hb=>?_⟩⟩⟩
   ·have c2:x∈cls.flatten:=of_decide_eq_true c2
    rw[e];unfold qIW
    rw[if_pos c2]
   ·have hnot:x ∉ cls.flatten:=fun h=>c2 (decide_eq_true h)
    have ec:qIW d m size cls x=cls++[qCG d m [x] size cls.flatten]:=by unfold qIW;rw[if_neg hnot]
    obtain⟨w1,w2,w3,w4⟩:=clu_new hmv hs.1 hxr hnot
    have s5:=CL.oo.sub
    have CL6:=CL.grow (Mem.sub_new hb (.cells #[.int .i64 x] 3 (0,0)))
    have T:Thw V5 (V5.set b (.cells #[.int .i64 x] 3 (0,0))) ⟨some ⟨b,0,none⟩,1,1⟩ v14 os [x] cls.flatten (qBA d m):=⟨own_one hb,qBD CL6.od,CL6.oq,fun c hc hb'=>by
     have h1:=qBq CL.od hc
     cases hb'.2
     exact h1 hb,fun c hc hb'=>by
     have h1:=qBq CL.oq hc
     cases hb'.2
     exact h1 hb⟩
    refine Tri.mono (c50 (most:=size) hv hmv (hd.sub s5) (hm.sub s5) T (Nds.nil.snoc hxr (by simp))) ?_
    rintro _ V8 ⟨s8,q8,z8,rfl,T8⟩
    refine⟨s8,rfl,?_⟩
    have CL8:=CL.grow T8.ol.sub
    have os8:=qBD T8.ol
    have hd8:∀c,Blk s8 c->¬Blk out c:=fun c hc ho=>qBq CL.oo ho (Own.none0 T8.ol hc)
    obtain⟨W,hW⟩:∃W,W=qCG d m [x] size cls.flatten:=⟨_,rfl⟩
    have os8:Sx.Own (fun _=>none) V8 3 1 s8 (W.flatMap qAd):=by rw[hW];exact os8
    rw[<- hW]at ec w1 w2 w3 w4
    refine qJb W.length (fun t V9=>∃zs':List Int,Cl3 V V9 out v14 os zs' cls.flatten (qBA d m)/\Sx.Own (fun _=>none) V9 3 1 s8 (W.flatMap qAd)/\qJg m.nodes.length size cls zs'/\∀y∈W.take t,zs'[(y-1).toNat]?=some ((cls.length:Nat):Int)) ⟨zs,CL8,os8,hOf,by simp⟩ ?_
    rintro t V9 J1 ht ⟨zs9,CL9,os9,hOf9,hall9⟩ hJ1
    have hwr:=os9.rows (row:=qAd) (xs:=W) (fun _=>rfl) (by decide)
    have hzr:=CL9.oo.rows (row:=qAd) (xs:=zs9) (fun _=>rfl) (by decide)
    refine⟨fun hlt9=>?_,fun hge9=>?_⟩
    ·obtain⟨y,hym,hy,-,htl,hp9,hz9,hrow9⟩:=hwr.get hlt9
     have hyr:=w1.rng y hym
     obtain⟨q,hq⟩:∃q:Nat,y-1=(q:Int):=⟨(y-1).toNat,by omega⟩
     have hzl:=hOf9.len
     obtain⟨c1,c2,c3,-⟩:=qCj hzr (List.getElem?_eq_getElem (show q<zs9.length by omega))
     refine⟨hp9,hz9,hlt9,_,hrow9,⟨by omega,by omega⟩,c1,by omega,by omega,?_⟩
     rw[hq,Int.toNat_natCast]
     refine CL9.place os9 hd8 (j:=q) (by omega) fun V10 CL10 os10=>⟨hwr.succ hlt9,hJ1 htl _ ⟨_,CL10,os10,⟨by rw[List.length_set];exact hzl,fun a c' hc' z hz'=>?_⟩,fun z hz'=>?_⟩⟩
     ·have hne:z≠y:=fun h=>w3 y hym (by rw[<- h];exact List.mem_flatten.2 ⟨c',List.mem_of_getElem? hc',hz'⟩)
      have hzr':=hI.nds.rng z (List.mem_flatten.2 ⟨c',List.mem_of_getElem? hc',hz'⟩)
      rw[List.getElem?_set_ne (by omega)]
      exact hOf9.at_ a c' hc' z hz'
     ·by_cases h:z=y
      ·rw[h,hq,Int.toNat_natCast,List.getElem?_set_self (by omega)]
      ·rw[qAO hy]at hz'
       have hz':z∈W.take t:=by
        rcases List.mem_append.1 hz' with h1|h1
        ·exact h1
        ·exact absurd (List.mem_singleton.1 h1) h
       have hzr':=w1.rng z (List.mem_of_mem_take hz')
       rw[List.getElem?_set_ne (by omega)]
       exact hall9 z hz'
    ·have hd9:=(hwr.done hge9).2
     rw[List.take_of_length_le hd9]at hall9
     have hI1:=I1
     rw[ec]at hI1
     have hl1:=hI1.len
     rw[List.length_append,List.length_singleton]at hl1
     have hn1:=hI1.nds.len
     rw[List.flatten_append,List.flatten_singleton,List.length_append]at hn1
     refine qDb (s:=v14) (u:=s8) (xs:=cls.flatten) (ys:=W) rfl rfl CL9.od.but hwr (by omega) fun dn' V10 o10=>⟨dn',rfl,⟨by omega,by omega⟩,hsu,?_⟩
     have CL10:=CL9.push (Q:=(cls++[W]).flatten) o10 (by rw[List.flatten_append,List.flatten_singleton])
     refine hJ ((qBA d m).length-(i+1)) _ _ (by omega) ⟨i+1,dn',cls++[W],zs9,?_,hil,rfl,by rw[e,ec],hI1,CL10,⟨hOf9.len,fun a c' hc' z hz'=>?_⟩⟩
     ·rw[List.length_append,List.length_singleton];rfl
     ·by_cases h:a<cls.length
      ·rw[List.getElem?_append_left h]at hc'
       exact hOf9.at_ a c' hc' z hz'
      ·rw[List.getElem?_append_right (by omega)]at hc'
       have ha0:a-cls.length=0:=by
        have:=(List.getElem?_eq_some_iff.1 hc').1
        rw[List.length_singleton]at this;omega
       rw[ha0]at hc'
       cases hc'
       rw[hall9 z hz',show a=cls.length by omega]
  ·have hdn:=(hor.done hge).2
   rw[List.take_of_length_le hdn]at hcl
   rw[hR]
   refine⟨out,zs,rfl,CL.oo,?_⟩
   unfold qAQ
   rw[if_neg (by omega)]
   rw[hcl]at hOf;exact hOf
end
noncomputable def exE(d:Ds)(m:Mm)(size most fuel:Int):Int:=if qBF d m 0=0 then (if 1<=size/\size<=64/\1<=most/\most<=1000/\0<=fuel/\fuel<=1048576 then 0 else 2) else qBF d m 0
structure Pt (V0 V:Mem) (p t:Sl) (xs ys:List Int):Prop where
 op:Sx.Own V0 V 3 1 p (xs.flatMap qAd)
 ot:Sx.Own V0 V 3 1 t (ys.flatMap qAd)
 dj:∀c,Blk p c->¬Blk t c
section
variable{V0 V V':Mem}{p t:Sl}{xs ys zs:List Int}
theorem Pt.pushP(h:Pt V0 V p t xs ys){q:Sl}(o:Sx.Own (V.but p) V' 3 1 q (zs.flatMap qAd)):Pt V0 V' q t zs ys:=by
 obtain⟨h1,h2,h3⟩:=qDS h.op o
 exact⟨h1,Own.moveB h.ot h1.sub fun g cur hg hc=>by rw[h2 g (fun hb=>h.dj g hb hg) (qBq h.ot hg)];exact hc,fun c hc ht=>(h3 c hc).elim (fun hb=>h.dj c hb ht) (qBq h.ot ht)⟩
theorem Pt.pushT(h:Pt V0 V p t xs ys){q:Sl}(o:Sx.Own (V.but t) V' 3 1 q (zs.flatMap qAd)):Pt V0 V' p q xs zs:=by
 obtain⟨h1,h2,h3⟩:=qDS h.ot o
 exact⟨Own.moveB h.op h1.sub fun g cur hg hc=>by rw[h2 g (fun hb=>h.dj g hg hb) (qBq h.op hg)];exact hc,h1,fun c hc ht=>(h3 c ht).elim (fun hb=>h.dj c hc hb) (qBq h.op hc)⟩
end
section
variable{V:Mem}{d:Ds}{m:Mm}
theorem c51[Tab V](hd:Ds.Ok V d)(hm:Mm.Ok V m){size most fuel:Int}:Tri Tryz.prog 51 #[d.v,m.v,.int .i64 size,.int .i64 most,.int .i64 fuel] V fun e V'=>e=.returned (.int .i64 (exE d m size most fuel))/\V.sub V':=by
 refine x51 ?_
 unfold w51
 have e:scrE d 0 m []=qBF d m 0:=by
  unfold scrE
  by_cases h:qBF d m 0=0
  ·rw[if_pos h,h];rfl
  ·rw[if_neg h]
 refine Tri.mono (c33 hd hm (l:=qAT) (cs:=[]) ⟨qAc.nil,by simp⟩ (F:=0) (.inl (by omega))) ?_
 rintro _ V1 ⟨hs,⟨h0,rfl⟩|⟨h0,o,a,b,nd,-,-,-,-,rfl⟩⟩
 ·rw[e]at h0
  refine⟨qAT,qAT,qAT,_,rfl,fun h=>absurd (e ▸ h) h0,fun _=>⟨?_,hs⟩⟩
  unfold exE
  rw[if_neg h0,e]
 ·rw[e]at h0
  have out:¬(1<=size/\size<=64/\1<=most/\most<=1000/\0<=fuel/\fuel<=1048576)->exE d m size most fuel=2:=fun h=>by unfold exE;rw[if_pos h0,if_neg h]
  have bad:¬(1<=size/\size<=64/\1<=most/\most<=1000/\0<=fuel/\fuel<=1048576)->Ending.returned (.int .i64 2)=.returned (.int .i64 (exE d m size most fuel))/\V.sub V1:=fun h=>⟨by rw[out h],hs⟩
  refine⟨o,a,b,0,rfl,fun _=>⟨fun h=>bad (by omega),fun h1=>⟨fun h=>bad (by omega),fun h2=>⟨fun h=>bad (by omega),fun h3=>⟨fun h=>bad (by omega),fun h4=>⟨fun h=>bad (by omega),fun h5=>⟨fun h=>bad (by omega),fun h6=>⟨?_,hs⟩⟩⟩⟩⟩⟩⟩,fun h=>absurd rfl h⟩
  unfold exE
  rw[if_pos h0,if_pos (by omega)]
end
end Go.Proofs
namespace Go.Proofs
open Go Go.Sx
def blkS(size:Int)(s:List Int×List Int)(a:Int×Int×Int):List Int×List Int :=
 (if a.1=3 then s.1++[qCx s.1 size] else s.1,if 0<a.2.1 then s.2++[(if a.1=3 then s.1++[qCx s.1 size] else s.1).getD (a.2.1-1).toNat 0] else s.2)
def qEk(size:Int)(lg:List (Int×Int×Int))(pl:List Int):List Int×List Int:=lg.foldl (blkS size) (pl,[])
theorem qGh{size:Int}{lg:List (Int×Int×Int)}{pl:List Int}{i:Nat}{a:Int×Int×Int}(h:lg[i]?=some a):qEk size (lg.take (i+1)) pl=blkS size (qEk size (lg.take i) pl) a:=by
 unfold qEk
 rw[List.take_add_one,h,List.foldl_append];rfl
theorem qFK{α:Type}{p:Nat->Prop}(l:List α)(h0:p 0)(h:∀i a,l[i]?=some a->p i->p (i+1)):∀i,i<=l.length->p i
 | 0,_=>h0
 | i+1,hi=>h i _ (List.getElem?_eq_getElem (show i<l.length by omega)) (qFK l h0 h i (by omega))
theorem alN_next{l:List (Int×Int×Int)}{i:Nat}{x:Int×Int×Int}(h:l[i]?=some x):alN (l.take (i+1))=alN (l.take i)+if x.1=3 then 1 else 0:=by
 unfold alN
 rw[List.take_add_one,h,List.filter_append,List.length_append]
 congr 1
 by_cases hx:x.1=3
 ·rw[if_pos hx];simp[hx]
 ·rw[if_neg hx];simp[hx]
section
variable{size:Int}{lg:List (Int×Int×Int)}{pl:List Int}
theorem blk_len(i:Nat)(hi:i<=lg.length):(qEk size (lg.take i) pl).1.length=pl.length+alN (lg.take i):=by
 refine qFK (p:=fun i=>(qEk size (lg.take i) pl).1.length=pl.length+alN (lg.take i)) lg rfl (fun i a h ih=>?_) i hi
 rw[qGh h,alN_next h]
 unfold blkS
 by_cases c:a.1=3
 ·simp only[if_pos c,List.length_append,List.length_singleton];omega
 ·simp only[if_neg c];omega
theorem blk_tr(i:Nat)(hi:i<=lg.length):(qEk size (lg.take i) pl).2.length=qBj (lg.take i):=by
 refine qFK (p:=fun i=>(qEk size (lg.take i) pl).2.length=qBj (lg.take i)) lg rfl (fun i a h ih=>?_) i hi
 rw[qGh h,qIl h]
 unfold blkS
 by_cases c:0<a.2.1
 ·simp only[if_pos c,List.length_append,List.length_singleton];omega
 ·simp only[if_neg c];omega
theorem furth_hi{l:List Int}{M:Int}(h:∀b∈l,b<=M)(h0:-1<=M):qCx l size<=M+1:=by
 obtain⟨h1,h2,h3,-⟩:=qDF l
 have:(qCa l).1<=M:=by
  rcases h3 with h3|h3
  ·omega
  ·exact h _ h3
 unfold qCx
 split <;> omega
theorem blk_rng{M:Int}(h:∀b∈pl,0<=b/\b<=M)(h0:-1<=M)(i:Nat)(hi:i<=lg.length):(∀b∈(qEk size (lg.take i) pl).1,0<=b/\b<=M+alN (lg.take i))/\∀b∈(qEk size (lg.take i) pl).2,0<=b/\b<=M+alN (lg.take i)+1:=by
 refine qFK (p:=fun i=>(∀b∈(qEk size (lg.take i) pl).1,0<=b/\b<=M+alN (lg.take i))/\∀b∈(qEk size (lg.take i) pl).2,0<=b/\b<=M+alN (lg.take i)+1) lg ⟨fun b hb=>?_,fun b hb=>by cases hb⟩ (fun i a h ih=>?_) i hi
 ·have:=h b hb
  show 0<=b/\b<=M+(0:Nat)
  omega
 obtain⟨ih1,ih2⟩:=ih
 have hn:=alN_next h
 have key:∀b∈(if a.1=3 then (qEk size (lg.take i) pl).1++[qCx (qEk size (lg.take i) pl).1 size] else (qEk size (lg.take i) pl).1),0<=b/\b<=M+alN (lg.take (i+1)):=fun b hb=>by
  by_cases c:a.1=3
  ·rw[if_pos c]at hb hn
   rcases List.mem_append.1 hb with hb|hb
   ·have:=ih1 b hb;omega
   ·rw[List.mem_singleton.1 hb]
    have h1:=furth_lo (qEk size (lg.take i) pl).1 size
    have h2:=furth_hi (size:=size) (fun b hb=>(ih1 b hb).2) (by omega)
    omega
  ·rw[if_neg c]at hb hn
   have:=ih1 b hb;omega
 rw[qGh h]
 unfold blkS
 refine⟨key,fun b hb=>?_⟩
 by_cases c:0<a.2.1
 ·simp only[if_pos c]at hb
  rcases List.mem_append.1 hb with hb|hb
  ·have:=ih2 b hb;split at hn <;> omega
  ·rw[List.mem_singleton.1 hb,List.getD_eq_getElem?_getD]
   cases e:(if a.1=3 then (qEk size (lg.take i) pl).1++[qCx (qEk size (lg.take i) pl).1 size] else (qEk size (lg.take i) pl).1)[(a.2.1-1).toNat]? with
   | none=>simp only[Option.getD_none];omega
   | some y=>have:=key y (List.mem_of_getElem? e);simp only[Option.getD_some];omega
 ·simp only[if_neg c]at hb
  have:=ih2 b hb;split at hn <;> omega
end
end Go.Proofs
namespace Go.Proofs
open Go Go.Sx
attribute [local irreducible] Go.Sx.Tri
theorem alN_le(l:List (Int×Int×Int))(i:Nat):alN (l.take i)<=i:=by
 unfold alN
 refine Nat.le_trans (List.length_filter_le _ _) ?_
 rw[List.length_take];omega
section
variable{V V0:Mem}{d:Ds}{F:Nat}{m:Mm}{nm:ByteArray}{args:List Int}{l:Sl}
theorem play_gr(G:qAB d m)(hc:qDj d m nm args=0):Gr F 0 (qCi m) (qCo d F (qDx d nm) args (qCi m)).st:=by
 obtain⟨i,q,hi,hq,hval⟩:=qIN hc
 rw[hi]
 exact(play_snd (F:=F) (qHz G.valid G.chk) hq (qKG G) (qAk (qDR (qEJ m).symm) hval)).gr
end
section
variable{size:Int}{lg:List (Int×Int×Int)}{pl:List Int}
theorem blk_pl0(h:Pl0 pl size)(hs:1<=size)(i:Nat)(hi:i<=lg.length):Pl0 (qEk size (lg.take i) pl).1 size:=by
 refine qFK (p:=fun i=>Pl0 (qEk size (lg.take i) pl).1 size) lg h (fun i a h ih=>?_) i hi
 rw[qGh h]
 unfold blkS
 by_cases c:a.1=3
 ·simp only[if_pos c];exact furth_pl0 ih hs
 ·simp only[if_neg c];exact ih
end
section
variable{V:Mem}{d:Ds}{m:Mm}{nm:ByteArray}{args pl:List Int}{F:Nat}{size:Int}
theorem play_log(h:qBt d m nm args F=0):LgOk m.nodes.length (qCo d F (qDx d nm) args (qCi m)).st.lg (qCo d F (qDx d nm) args (qCi m)).st.ns.length/\(qCo d F (qDx d nm) args (qCi m)).st.lg.length<=4000*F:=by
 obtain⟨G,hc⟩:=qJp h
 have g:=play_gr (F:=F) G hc
 generalize (qCo d F (qDx d nm) args (qCi m)).st=s at g ⊢
 obtain⟨l,h1,h2,-⟩:=g.lg
 have h3:=g.fu (Nat.zero_le _)
 have h4:=g.w
 have e:(qCi m).lg=[]:=rfl
 rw[e,List.nil_append]at h1
 subst h1
 rw[show (qCi m).ns.length=m.nodes.length from List.length_map ..]at h2
 rw[show (qCi m).lg.length=0 from rfl,show (qCi m).cm=0 from rfl,show (qCi m).tk=0 from rfl]at h4
 have:s.tk<=F:=h3
 exact⟨h2,by omega⟩
def ExtP(V:Mem)(d:Ds)(F:Nat)(m:Mm)(nm:ByteArray)(args pl:List Int)(size:Int):Ending->Mem->Prop:=fun e V' =>
 (qBt d m nm args F≠0/\V.sub V'/\e=.returned (.tuple #[.agg #[.int .i64 0,.int .i64 0,.int .i64 0,.int .i64 0,.int .i64 0,qAT.v,qAT.v,qAT.v,qAT.v],.int .i64 (qBt d m nm args F)])) ∨
 (qBt d m nm args F=0/\∃r:Rx Int,∃(gs ns ls:Sl) (nd:List Nd) (p t:Sl),r=qCo d F (qDx d nm) args (qCi m)/\Lay V V' gs ns ls nd r.st/\Pt V V' p t (qEk size r.st.lg pl).1 (qEk size r.st.lg pl).2/\e=.returned (.tuple #[.agg #[.int .i64 (outC r),.int .i64 (outV r),.int .i64 r.st.cm,.int .i64 (qBj r.st.lg),.int .i64 0,gs.v,ns.v,p.v,t.v],.int .i64 0]))
theorem c52[Tab V]{l ps:Sl}{M:Int}(hd:Ds.Ok V d)(hm:Mm.Ok V m)(ha:qAc V l 1 (args.map qAd))(hF:F<=4000)(hp:qAc V ps 1 (pl.map qAd))(hpl:pl.length=m.nodes.length)(h0:Pl0 pl size)(hs:1<=size)(hb:∀b∈pl,b<=M)(hM:-1<=M/\M<=100000)(hN:∀r,r=qCo d F (qDx d nm) args (qCi m)->qBt d m nm args F=0->r.st.ns.length<=4096) :
  Tri Tryz.prog 52 #[d.v,m.v,ps.v,.int .i64 size,.agg #[.string nm,l.v],.int .i64 F] V (ExtP V d F m nm args pl size):=by
 obtain⟨R,hR⟩:∃R,R=ExtP V d F m nm args pl size:=⟨_,rfl⟩
 rw[<- hR]
 refine x52 ?_
 unfold w52
 refine Tri.mono (c24 hd hm ha hF) ?_
 rintro _ V1 (⟨hc,s1,rfl⟩|⟨hc,r,gs,ns,ls,nd,hr,L,rfl⟩)
 ·refine⟨0,0,0,0,0,qAT,qAT,_,rfl,fun h=>absurd h hc,fun _=>?_⟩
  rw[hR];exact .inl ⟨hc,s1,rfl⟩
 have s1:=L.sub
 haveI:Tab V1:=Tab.sub (V:=V) inferInstance s1
 refine⟨_,_,_,_,_,_,_,_,rfl,fun _=>?_,fun h=>absurd rfl h⟩
 refine Tri.mono (c36 (nm:=nm) (hd.sub s1) (hm.sub s1) (ha.sub s1) hF) ?_
 rintro _ V2 (⟨hc2,-,-⟩|⟨-,r2,lt,hr2,ol,rfl⟩)
 ·exact absurd hc hc2
 rw[<- hr]at hr2
 subst hr2
 refine⟨lt,_,rfl,fun _=>?_,fun h=>absurd rfl h⟩
 have s2:=s1.trans ol.sub
 obtain⟨hlog,hlen⟩:=play_log hc
 rw[<- hr]at hlog hlen
 have hns:=hN _ hr hc
 refine Tri.mono (c42 (hp.sub s2) (by rw[hpl];have:=hlog.len;omega)) ?_
 rintro _ V3 ⟨p3,rfl,o3⟩
 refine⟨p3,rfl,?_⟩
 have hln:=hlog.len
 have T0:Pt V2 V3 p3 ⟨none,0,0⟩ pl []:=⟨o3,Own.nil o3.sub _ _,fun c _ h=>absurd rfl h.1⟩
 refine⟨fun n ys V4=>∃(i:Nat) (p t:Sl),ys=[.int .i64 (outC r2),.int .i64 (outV r2),.int .i64 r2.st.cm,.int .i64 (qBj r2.st.lg),.int .i64 0,gs.v,ns.v,p.v,t.v,.int .i64 i]/\i<=r2.st.lg.length/\n=r2.st.lg.length-i/\Pt V2 V4 p t (qEk size (r2.st.lg.take i) pl).1 (qEk size (r2.st.lg.take i) pl).2,r2.st.lg.length,⟨0,p3,⟨none,0,0⟩,rfl,Nat.zero_le _,rfl,T0⟩,?_⟩
 rintro n V4 v26 v27 v28 v29 v30 v31 v32 v33 v34 v35 ⟨i,p,t,hys,hi,rfl,T⟩ J hJ
 simp only[List.cons.injEq,Value.int.injEq,true_and,and_true]at hys
 obtain⟨rfl,rfl,rfl,rfl,rfl,h5,h6,h7,h8,rfl⟩:=hys
 cases qBk _ _ h5;cases qBk _ _ h6;cases qBk _ _ h7;cases qBk _ _ h8
 have hlr:=(Own.growS ol (T.op.sub)).rows (row:=qHl) (xs:=r2.st.lg) (fun _=>rfl) (by decide)
 refine⟨fun hlt=>?_,fun hge=>?_⟩
 ·obtain⟨a,ham,hia,-,hil,hpn,hz,hrow⟩:=hlr.get hlt
  obtain⟨k1,k2,k3,k4,-⟩:=hlog.at_ i a hia
  have hS:=qGh (size:=size) (pl:=pl) hia
  have hbl:=blk_len (size:=size) (pl:=pl) i (Nat.le_of_lt hil)
  have hbt:=blk_tr (size:=size) (pl:=pl) i (Nat.le_of_lt hil)
  have hal:=alN_le r2.st.lg i
  have hnl:qBj (r2.st.lg.take i)<=16000000:=by
   unfold qBj
   refine Nat.le_trans (List.length_filter_le _ _) ?_
   rw[List.length_take];omega
  have hmono:alN (r2.st.lg.take i)<=alN r2.st.lg:=by
   unfold alN
   exact((List.take_sublist i _).filter _).length_le
  refine⟨hpn,hz,hlt,a.1,a.2.1,a.2.2,hrow,fun c=>?_,fun c=>?_⟩
  ·have c:a.1=3:=c
   have hrg:=(blk_rng (size:=size) (lg:=r2.st.lg) (pl:=pl) (M:=M) (fun b hb'=>⟨h0.lo b hb',hb b hb'⟩) hM.1 i (Nat.le_of_lt hil)).1
   refine(c41 (size:=size) (T.op.rows (row:=qAd) (fun _=>rfl) (by decide)) (blk_pl0 h0 hs i (Nat.le_of_lt hil)) (fun b hb'=>by have:=(hrg b hb').2;omega)).call ⟨_,rfl,fun b5 hb5=>?_⟩
   refine oneG (row:=qAd) qDb (x:=qCx (qEk size (r2.st.lg.take i) pl).1 size) (s:=v33) T.op.but hb5 (by omega) rfl rfl (fun _=>rfl) fun s5 V5 o5=>⟨s5,rfl,?_⟩
   have T5:=T.pushP o5
   obtain⟨X,hX⟩:∃X,X=(if a.1=3 then (qEk size (r2.st.lg.take i) pl).1++[qCx (qEk size (r2.st.lg.take i) pl).1 size] else (qEk size (r2.st.lg.take i) pl).1):=⟨_,rfl⟩
   have hX2:=hX
   rw[if_pos c]at hX2
   rw[<- hX2]at T5
   have hXl:X.length=pl.length+alN (r2.st.lg.take i)+1:=by rw[hX2,List.length_append,hbl];rfl
   have:=k2 c
   refine⟨fun c2=>?_,fun c2=>?_⟩
   ·have c2:0<a.2.1:=c2
    obtain⟨q,hq⟩:∃q:Nat,a.2.1-1=(q:Int):=⟨(a.2.1-1).toNat,by omega⟩
    obtain⟨d1,d2,d3,d4⟩:=qCj (T5.op.rows (row:=qAd) (xs:=X) (fun _=>rfl) (by decide)) (List.getElem?_eq_getElem (show q<X.length by omega))
    rw[hq]
    refine⟨⟨by omega,by omega⟩,d1,d2,d3,_,d4,fun b hb=>?_⟩
    refine oneG (row:=qAd) qDb (x:=X[q]'(by omega)) (s:=v34) T5.ot.but hb (by omega) rfl rfl (fun _=>rfl) fun s6 V6 o6=>⟨s6,rfl,hlr.succ hlt,?_⟩
    refine hJ (r2.st.lg.length-(i+1)) _ _ (by omega) ⟨i+1,s5,s6,rfl,hil,rfl,?_⟩
    rw[hS]
    have T6:=T5.pushT o6
    unfold blkS
    rw[if_pos c2]
    have e1:X.getD (a.2.1-1).toNat 0=X[q]'(by omega):=by rw[hq,Int.toNat_natCast,List.getD_eq_getElem?_getD,List.getElem?_eq_getElem (show q<X.length by omega)];rfl
    rw[<- hX,e1]
    exact T6
   ·have c2:¬0<a.2.1:=c2
    refine⟨hlr.succ hlt,hJ (r2.st.lg.length-(i+1)) _ _ (by omega) ⟨i+1,s5,v34,rfl,hil,rfl,?_⟩⟩
    rw[hS]
    unfold blkS
    rw[if_neg c2,<- hX]
    exact T5
  ·have c:¬a.1=3:=c
   have T5:=T
   obtain⟨X,hX⟩:∃X,X=(if a.1=3 then (qEk size (r2.st.lg.take i) pl).1++[qCx (qEk size (r2.st.lg.take i) pl).1 size] else (qEk size (r2.st.lg.take i) pl).1):=⟨_,rfl⟩
   have hX2:=hX
   rw[if_neg c]at hX2
   rw[<- hX2]at T5
   have hXl:X.length=pl.length+alN (r2.st.lg.take i):=by rw[hX2,hbl]
   have:=k3 c
   refine⟨fun c2=>?_,fun c2=>?_⟩
   ·have c2:0<a.2.1:=c2
    obtain⟨q,hq⟩:∃q:Nat,a.2.1-1=(q:Int):=⟨(a.2.1-1).toNat,by omega⟩
    obtain⟨d1,d2,d3,d4⟩:=qCj (T5.op.rows (row:=qAd) (xs:=X) (fun _=>rfl) (by decide)) (List.getElem?_eq_getElem (show q<X.length by omega))
    rw[hq]
    refine⟨⟨by omega,by omega⟩,d1,d2,d3,_,d4,fun b hb=>?_⟩
    refine oneG (row:=qAd) qDb (x:=X[q]'(by omega)) (s:=v34) T5.ot.but hb (by omega) rfl rfl (fun _=>rfl) fun s6 V6 o6=>⟨s6,rfl,hlr.succ hlt,?_⟩
    refine hJ (r2.st.lg.length-(i+1)) _ _ (by omega) ⟨i+1,v33,s6,rfl,hil,rfl,?_⟩
    rw[hS]
    have T6:=T5.pushT o6
    unfold blkS
    rw[if_pos c2]
    have e1:X.getD (a.2.1-1).toNat 0=X[q]'(by omega):=by rw[hq,Int.toNat_natCast,List.getD_eq_getElem?_getD,List.getElem?_eq_getElem (show q<X.length by omega)];rfl
    rw[<- hX,e1]
    exact T6
   ·have c2:¬0<a.2.1:=c2
    refine⟨hlr.succ hlt,hJ (r2.st.lg.length-(i+1)) _ _ (by omega) ⟨i+1,v33,v34,rfl,hil,rfl,?_⟩⟩
    rw[hS]
    unfold blkS
    rw[if_neg c2,<- hX]
    exact T5
 ·have hdn:=(hlr.done hge).2
  rw[List.take_of_length_le hdn]at T
  rw[hR]
  refine .inr ⟨hc,r2,gs,ns,ls,nd,v33,v34,hr,L.grow (ol.sub.trans T.op.sub),⟨T.op.narrow s2,T.ot.narrow s2,T.dj⟩,rfl⟩
end
section
variable{V:Mem}{d:Ds}{m:Mm}{nm:ByteArray}{args pl:List Int}{F:Nat}{size most:Int}
theorem qJA(h:qBt d m nm args F=0):(qCo d F (qDx d nm) args (qCi m)).st.ns.length<=4096:=by
 obtain⟨G,hc⟩:=qJp h
 have g:=play_good (F:=F) G hc
 have h1:=(qAh g.mem).2.1
 generalize (qCo d F (qDx d nm) args (qCi m)).st=s at h1 ⊢
 rw[show s.mm.nodes.length=s.ns.length from List.length_map ..]at h1
 exact h1
noncomputable def exrE(d:Ds)(m:Mm)(pl:List Int)(size most:Int)(nm:ByteArray)(args:List Int)(F:Int):Int:=if exE d m size most F=0 then (if pl.length=m.nodes.length/\plB pl size=true then qBt d m nm args F else 30) else exE d m size most F
theorem ex_zero{F:Int}(h:exE d m size most F=0):qAB d m/\1<=size/\size<=64/\1<=most/\most<=1000/\0<=F/\F<=1048576:=by
 unfold exE at h
 by_cases h0:qBF d m 0=0
 ·rw[if_pos h0]at h
  by_cases h1:1<=size/\size<=64/\1<=most/\most<=1000/\0<=F/\F<=1048576
  ·exact⟨qER h0,h1⟩
  ·rw[if_neg h1]at h;cases h
 ·rw[if_neg h0]at h;exact absurd h h0
def ExrP(V:Mem)(d:Ds)(F:Int)(m:Mm)(nm:ByteArray)(args pl:List Int)(size most:Int):Ending->Mem->Prop:=fun e V' =>
 (exrE d m pl size most nm args F≠0/\V.sub V'/\e=.returned (.tuple #[.agg #[.int .i64 0,.int .i64 0,.int .i64 0,.int .i64 0,.int .i64 0],.agg #[qAT.v,qAT.v],qAT.v,.int .i64 (exrE d m pl size most nm args F)])) ∨
 (exrE d m pl size most nm args F=0/\∃r:Rx Int,∃(gs ns ls:Sl) (nd:List Nd) (p:Sl),r=qCo d F.toNat (qDx d nm) args (qCi m)/\Lay V V' gs ns ls nd r.st/\qAc V' p 1 ((qEk size r.st.lg pl).1.map qAd)/\e=.returned (.tuple #[.agg #[.int .i64 (outC r),.int .i64 (outV r),.int .i64 r.st.cm,.int .i64 (qBj r.st.lg),.int .i64 (qKu most.toNat [] (qEk size r.st.lg pl).2)],.agg #[gs.v,ns.v],p.v,.int .i64 0]))
theorem c19[Tab V]{l ps:Sl}{fu:Int}(hd:Ds.Ok V d)(hm:Mm.Ok V m)(ha:qAc V l 1 (args.map qAd))(hF:fu<=4000∨1048576<fu)(hp:qAc V ps 1 (pl.map qAd)) :
  Tri Tryz.prog 19 #[d.v,m.v,ps.v,.int .i64 size,.int .i64 most,.agg #[.string nm,l.v],.int .i64 fu] V (ExrP V d fu m nm args pl size most):=by
 obtain⟨R,hR⟩:∃R,R=ExrP V d fu m nm args pl size most:=⟨_,rfl⟩
 rw[<- hR]
 refine x19 ?_
 unfold w19
 have bad:∀{k:Int} {V':Mem},exrE d m pl size most nm args fu=k->k≠0->V.sub V'->R (.returned (.tuple #[.agg #[.int .i64 0,.int .i64 0,.int .i64 0,.int .i64 0,.int .i64 0],.agg #[qAT.v,qAT.v],qAT.v,.int .i64 k])) V':=fun h hk hs=>by rw[hR];exact .inl ⟨by rw[h];exact hk,hs,by rw[h]⟩
 have hnn:=hm.nodes.n_eq
 refine Tri.mono (c51 hd hm) ?_
 rintro _ V1 ⟨rfl,s1⟩
 haveI:Tab V1:=Tab.sub (V:=V) inferInstance s1
 refine⟨_,rfl,fun h0=>?_,fun h0=>⟨fun h=>absurd h h0,fun _=>bad (by unfold exrE;rw[if_neg h0]) h0 s1⟩⟩
 have h0:exE d m size most fu=0:=h0
 obtain⟨G,hs1,hs2,hm1,hm2,hf0,hf1⟩:=ex_zero h0
 obtain⟨F,rfl⟩:∃F:Nat,fu=(F:Int):=⟨fu.toNat,by omega⟩
 have hF:F<=4000:=by omega
 refine(c40 (size:=size) (n:=(m.ns.n:Int)) (hp.sub s1)).call ⟨_,rfl,fun h1=>?_,fun h1=>bad (k:=30) ?_ (by decide) s1⟩
 ·have h1:(decide ((pl.length:Int)=(m.ns.n:Int))&&plB pl size)=true:=h1
  rw[Bool.and_eq_true,decide_eq_true_eq,hnn]at h1
  have h1l:pl.length=m.nodes.length:=by omega
  obtain⟨hl4,hplc⟩:=qEN.1 h1.2
  have er:exrE d m pl size most nm args F=qBt d m nm args F:=by unfold exrE;rw[if_pos h0,if_pos ⟨h1l,h1.2⟩]
  refine⟨fun _=>?_,fun h=>absurd h0 h⟩
  refine Tri.mono (c52 (M:=4095) (pl:=pl) (size:=size) (nm:=nm) (hd.sub s1) (hm.sub s1) (ha.sub s1) hF (hp.sub s1) h1l hplc.pl0 hs1 (fun b hb=>by have:=(hplc.rng b hb).2;omega) (by omega) fun r hr hc=>by rw[hr];exact qJA hc) ?_
  rintro _ V2 (⟨hc,s2,rfl⟩|⟨hc,r,gs,ns,ls,nd,p,t,hr,L,T,rfl⟩)
  ·exact⟨0,0,0,0,0,qAT,qAT,qAT,qAT,_,rfl,fun h=>absurd h hc,fun _=>bad er hc (s1.trans s2)⟩
  have s2:=T.op.sub
  obtain⟨hlog,hlen⟩:=play_log hc
  rw[<- hr]at hlog hlen
  have hns:r.st.ns.length<=4096:=by rw[hr];exact qJA hc
  have hln:=hlog.len
  have hrg:=(blk_rng (size:=size) (lg:=r.st.lg) (pl:=pl) (M:=4095) (fun b hb=>⟨(hplc.rng b hb).1,by have:=(hplc.rng b hb).2;omega⟩) (by omega) r.st.lg.length (Nat.le_refl _)).2
  have htl:=blk_tr (size:=size) (lg:=r.st.lg) (pl:=pl) r.st.lg.length (Nat.le_refl _)
  rw[List.take_length]at hrg htl
  have hnl:qBj r.st.lg<=16000000:=by
   unfold qBj
   refine Nat.le_trans (List.length_filter_le _ _) ?_
   omega
  refine⟨_,_,_,_,_,gs,ns,p,t,_,rfl,fun _=>?_,fun h=>absurd rfl h⟩
  refine Tri.mono (c53 (m:=most)) ?_
  rintro _ V3 (⟨h,-⟩|⟨-,q,rfl,C⟩)
  ·exact absurd ⟨hm1,hm2⟩ h
  refine⟨some ⟨q,0,none⟩,0,rfl,fun _=>?_,fun h=>absurd rfl h⟩
  refine Tri.mono (c54 C (by omega) (T.ot.rows (row:=qAd) (fun _=>rfl) (by decide)) (fun x hx=>by have:=hrg x hx;omega) (by omega)) ?_
  rintro _ V4 ⟨rfl,C4⟩
  refine⟨_,rfl,?_⟩
  have s4:=C4.sub
  rw[hR]
  exact .inr ⟨er.trans hc,r,gs,ns,ls,nd,p,hr,(L.narrow s1).grow s4,(T.op.rows (row:=qAd) (fun _=>rfl) (by decide)).sub s4,rfl⟩
 ·unfold exrE
  rw[if_pos h0,if_neg fun h=>h1 ?_]
  rw[h.2,hnn,h.1];simp
end
section
variable{V:Mem}{d:Ds}{m:Mm}
theorem c10(hd:Ds.Ok V d)(hm:Mm.Ok V m){fu:Int}:Tri Tryz.prog 10 #[d.v,m.v,.int .i64 fu] V fun e V'=>V'=V/\∃b:Bool,e=.returned (.bool b)/\(b=false->fu<=3000∨1048576<fu):=by
 refine x10 ?_
 unfold w10
 refine Tri.mono (greatC hd) ?_
 rintro _ _ ⟨rfl,b,rfl⟩
 refine⟨b,rfl,fun _=>⟨rfl,true,rfl,fun h=>by cases h⟩,fun _=>Tri.mono (manyC hm) ?_⟩
 rintro _ _ ⟨rfl,c,rfl⟩
 refine⟨c,rfl,fun _=>⟨rfl,true,rfl,fun h=>by cases h⟩,fun _=>⟨fun h=>⟨rfl,_,rfl,fun h2=>?_⟩,fun h=>⟨rfl,false,rfl,fun _=>?_⟩⟩⟩
 ·have:=of_decide_eq_false h2
  omega
 ·have h:¬3000<fu:=h
  omega
end
end Go.Proofs
namespace Go.Proofs
open Go Go.Sx
section
variable{d d':Ds}{m m':Mm}(hn:∀n,qAx d' m' n=qAx d m n)
include hn
theorem ent_same:∀(n:Nat) (s:Sr) (x:Int),qDy d' m' n s x=qDy d m n s x:=by
 intro n
 induction n with
 | zero=>intro s x;rfl
 | succ n ih =>
  intro s x
  have e:qDy d' m' n=qDy d m n:=funext fun s=>funext fun x=>ih s x
  unfold qDy
  rw[hn,e]
theorem bfs_same(most:Nat)(but:List Int):∀(f:Nat) (l:List Int) (i:Nat),bfsP d' m' most but f l i=bfsP d m most but f l i:=by
 intro f
 induction f with
 | zero=>intro l i;rfl
 | succ f ih =>
  intro l i
  unfold bfsP
  simp only[ih,hn]
variable(hl:m'.nodes.length=m.nodes.length)
include hl
theorem wide_same(l:List Int)(most:Nat)(but:List Int):qCG d' m' l most but=qCG d m l most but:=by
 unfold qCG
 rw[hl]
 exact bfs_same hn _ _ _ _ _
theorem place_like(ht:tgt d'.globals m'.globals=tgt d.globals m.globals){k:Int}{size:Nat}{zs:List Int}(h:qAQ d' m' k size zs):qAQ d m k size zs:=by
 have e1:qFR d' m'=qFR d m:=by unfold qFR lookP;rw[ht,hl,show qDy d' m' (m.nodes.length+1)=qDy d m (m.nodes.length+1) from funext fun s=>funext fun x=>ent_same hn _ s x]
 have e2:qBA d' m'=qBA d m:=by unfold qBA;rw[e1,hl]
 have e3:qIQ d' m'=qIQ d m:=by
  unfold qIQ firstP
  rw[wide_same hn hl,ht,hl]
 have e4:qIW d' m' size=qIW d m size:=by
  funext s n
  unfold qIW
  rw[wide_same hn hl]
 unfold qAQ qBX cluP at h ⊢
 rw[e2,e3,e4,hl]at h
 exact h
end
theorem place_same{d d':Ds}{m:Mm}(hf:∀t,qAq d' t=qAq d t)(hg:d'.globals=d.globals){k:Int}{size:Nat}{zs:List Int}(h:qAQ d' m k size zs):qAQ d m k size zs :=
 place_like (fun n=>by unfold qAx;simp only[hf]) rfl (by rw[hg]) h
end Go.Proofs
namespace Go.Proofs
open Go Go.Sx
def chM(a b s0 s1 s2 s3:Sl):Mm:=⟨a,[4],b,[⟨0,s0,[0]⟩,⟨0,s1,[1]⟩,⟨0,s2,[2]⟩,⟨0,s3,[3]⟩]⟩
section
variable{a b s0 s1 s2 s3:Sl}
theorem ch_valid:qAz qCg=true:=by kernel_rfl
theorem ch_chk:qIO qCg=none:=by kernel_rfl
theorem ch_mem:qAs qCg (chM a b s0 s1 s2 s3)=true:=by kernel_rfl
theorem ch_good:qAB qCg (chM a b s0 s1 s2 s3):=⟨ch_valid,ch_chk,ch_mem⟩
theorem ch_start:qDj qCg (chM a b s0 s1 s2 s3) qHj []=0:=by kernel_rfl
theorem ch_idx:qDx qCg qHj=0:=by kernel_rfl
theorem ch_run:(fun r:Rx Int=>(outC r,outV r,r.st.cm,qBj r.st.lg,(qEk 2 r.st.lg [1,1,0,0]).1,qKu 1 [] (qEk 2 r.st.lg [1,1,0,0]).2)) (qCo qCg 100 0 [] (qCi (chM a b s0 s1 s2 s3)))=(0,0,0,4,[1,1,0,0],2):=by kernel_rfl
theorem ch_ord:qBX qCg (chM a b s0 s1 s2 s3) 1=[1,2,3,4]:=by kernel_rfl
theorem ch_deep:qBA qCg (chM a b s0 s1 s2 s3)=[4,3,2,1]:=by kernel_rfl
theorem ch_clu:cluP qCg (chM a b s0 s1 s2 s3) 2 [4,3,2,1]=[[4,3],[2,1]]:=by kernel_rfl
end
end Go.Proofs
namespace Go.Proofs
open Go Go.Sx
section
variable{a b s0 s1 s2 s3:Sl}
theorem ch_pl1:qAQ qCg (chM a b s0 s1 s2 s3) 1 2 [0,0,1,1]:=by
 unfold qAQ
 rw[if_pos (by decide),ch_ord]
 refine⟨rfl,fun j n hj=>?_⟩
 match j,hj with
 | 0,hj=>cases hj;rfl
 | 1,hj=>cases hj;rfl
 | 2,hj=>cases hj;rfl
 | 3,hj=>cases hj;rfl
 | j+4,hj=>cases hj
theorem ch_pl4:qAQ qCg (chM a b s0 s1 s2 s3) 4 2 [1,1,0,0]:=by
 unfold qAQ
 rw[if_neg (by decide),ch_deep,ch_clu]
 refine⟨rfl,fun j c hj n hn=>?_⟩
 match j,hj with
 | 0,hj =>
  cases hj
  simp only[List.mem_cons,List.not_mem_nil,or_false]at hn
  rcases hn with rfl|rfl <;> rfl
 | 1,hj =>
  cases hj
  simp only[List.mem_cons,List.not_mem_nil,or_false]at hn
  rcases hn with rfl|rfl <;> rfl
 | j+2,hj=>cases hj
theorem ch_place{d:Ds}(SD:qIT qCg d){k:Int}{zs ys:List Int}(h:qAQ d (chM a b s0 s1 s2 s3) k 2 zs)(h2:qAQ qCg (chM a b s0 s1 s2 s3) k 2 ys):zs=ys :=
 place_eq ch_mem (by decide) (place_same SD.fields (congrArg Ds.globals SD.er).symm h) h2
end
end Go.Proofs
namespace Go.Proofs
open Go Go.Sx
attribute [local irreducible] Go.Sx.Tri
theorem qKo{d:Ds}{m:Mm}{k size:Int}(h:qAs d m=true)(h1:1<=k/\k<=4/\1<=size/\size<=64):plF d m k size=0:=by unfold plF;rw[if_pos h,if_pos h1]
section
variable{a b s0 s1 s2 s3:Sl}{d:Ds}(SD:qIT qCg d)
include SD
theorem ch_gd:qAB d (chM a b s0 s1 s2 s3):=qAB.same ch_good SD
theorem ch_exr:exrE d (chM a b s0 s1 s2 s3) [1,1,0,0] 2 1 qHj [] 100=0:=by
 have G:=ch_gd (a:=a) (b:=b) (s0:=s0) (s1:=s1) (s2:=s2) (s3:=s3) SD
 have h0:qBF d (chM a b s0 s1 s2 s3) 0=0:=by grind [qBF]
 have P:=(place_plc (a:=[1,1,0,0]) (ch_mem (a:=a) (b:=b) (s0:=s0) (s1:=s1) (s2:=s2) (s3:=s3)) (by decide) ch_pl4).1
 unfold exrE exE
 rw[if_pos h0,if_pos (by decide),if_pos ⟨by rfl,qEN.2 ⟨by decide,P⟩⟩,start_ok G (by decide),SD.cll,ch_start]
theorem ch_play{r:Rx Int}(hr:r=qCo d (100:Int).toNat (qDx d qHj) [] (qCi (chM a b s0 s1 s2 s3))):outC r=0/\outV r=0/\r.st.cm=0/\qBj r.st.lg=4/\(qEk 2 r.st.lg [1,1,0,0]).1=[1,1,0,0]/\qKu (1:Int).toNat [] (qEk 2 r.st.lg [1,1,0,0]).2=2:=by
 rw[SD.idx,ch_idx,SD.play]at hr
 have h:=ch_run (a:=a) (b:=b) (s0:=s0) (s1:=s1) (s2:=s2) (s3:=s3)
 have e:r=qCo qCg 100 0 [] (qCi (chM a b s0 s1 s2 s3)):=hr
 rw[<- e]at h
 simp only[Prod.mk.injEq]at h
 exact h
end
section
variable{V:Mem}
theorem qDX{V:Mem}{b n:Nat}{xs:List Int}(h:V b=some (.cells (xs.map (Value.int .i64)).toArray 3 (0,0)))(hn:n=xs.length)(hx:xs.length<=100):qAc V (qDP b n) 1 (xs.map qAd) :=
 qAc.cells (row:=qAd) (xs:=xs) h (by rw[qBb]) (fun _=>rfl) hn (Nat.le_trans hx (by decide))
theorem c9[Tab V]:PP 9 [] V (.bool true):=by
 refine Pur.mk (x9 ?_)
 unfold w9
 refine Tri.mono c37 ?_
 rintro _ V1 ⟨s1,d,rfl,SD,hd⟩
 refine⟨_,_,_,_,_,_,_,_,rfl,fun b8 h8 b9 h9 b10 h10 b11 h11 b12 h12 b13 h13=>?_⟩
 have t8:=Mem.sub_new h8 (.cells ([4].map (Value.int .i64)).toArray 3 (0,0))
 have t9:=Mem.sub_new h9 (.cells ([0].map (Value.int .i64)).toArray 3 (0,0))
 have t10:=Mem.sub_new h10 (.cells ([1].map (Value.int .i64)).toArray 3 (0,0))
 have t11:=Mem.sub_new h11 (.cells ([2].map (Value.int .i64)).toArray 3 (0,0))
 have t12:=Mem.sub_new h12 (.cells ([3].map (Value.int .i64)).toArray 3 (0,0))
 have t13:=Mem.sub_new h13 (.cells #[.int .i64 0,(qDP b9 1).v,.int .i64 0,(qDP b10 1).v,.int .i64 0,(qDP b11 1).v,.int .i64 0,(qDP b12 1).v] 92 (0,0))
 obtain⟨U,hU⟩:∃U,U=((((((V1.set b8 (.cells ([4].map (Value.int .i64)).toArray 3 (0,0))).set b9 (.cells ([0].map (Value.int .i64)).toArray 3 (0,0))).set b10 (.cells ([1].map (Value.int .i64)).toArray 3 (0,0))).set b11 (.cells ([2].map (Value.int .i64)).toArray 3 (0,0))).set b12 (.cells ([3].map (Value.int .i64)).toArray 3 (0,0))).set b13 (.cells #[.int .i64 0,(qDP b9 1).v,.int .i64 0,(qDP b10 1).v,.int .i64 0,(qDP b11 1).v,.int .i64 0,(qDP b12 1).v] 92 (0,0))):=⟨_,rfl⟩
 have sU:V1.sub U:=by rw[hU];exact t8.trans (t9.trans (t10.trans (t11.trans (t12.trans t13))))
 have ca8:qAc U (qDP b8 1) 1 (([4]:List Int).map qAd):=qDX (xs:=[4]) (by rw[hU];exact(t9.trans (t10.trans (t11.trans (t12.trans t13)))) _ _ mss) rfl (by decide)
 have ca9:qAc U (qDP b9 1) 1 (([0]:List Int).map qAd):=qDX (xs:=[0]) (by rw[hU];exact(t10.trans (t11.trans (t12.trans t13))) _ _ mss) rfl (by decide)
 have ca10:qAc U (qDP b10 1) 1 (([1]:List Int).map qAd):=qDX (xs:=[1]) (by rw[hU];exact(t11.trans (t12.trans t13)) _ _ mss) rfl (by decide)
 have ca11:qAc U (qDP b11 1) 1 (([2]:List Int).map qAd):=qDX (xs:=[2]) (by rw[hU];exact(t12.trans t13) _ _ mss) rfl (by decide)
 have ca12:qAc U (qDP b12 1) 1 (([3]:List Int).map qAd):=qDX (xs:=[3]) (by rw[hU];exact t13 _ _ mss) rfl (by decide)
 have ca13:U b13=some (.cells #[.int .i64 0,(qDP b9 1).v,.int .i64 0,(qDP b10 1).v,.int .i64 0,(qDP b11 1).v,.int .i64 0,(qDP b12 1).v] 92 (0,0)):=by rw[hU];exact Mem.set_same _ _ _
 obtain⟨m,hm⟩:∃m,m=chM (qDP b8 1) (qDP b13 4) (qDP b9 1) (qDP b10 1) (qDP b11 1) (qDP b12 1):=⟨_,rfl⟩
 have M:Mm.Ok U m:=by
  rw[hm]
  refine⟨ca8,fun x hx=>by simp[chM]at hx;rw[hx];unfold inI;decide,qAc.cells (row:=Nd.row) ca13 rfl (fun _=>rfl) rfl (by simp[chM]),fun n hn=>?_⟩
  have one:∀{s:Sl} {x:Int},qAc U s 1 (([x]:List Int).map qAd)->inI x->Nd.Ok U ⟨0,s,[x]⟩:=fun h hx=>⟨h,(show inI 0 by unfold inI;decide),fun y hy=>by rw[List.mem_singleton.1 hy];exact hx⟩
  simp only[chM,List.mem_cons,List.not_mem_nil,or_false]at hn
  rcases hn with rfl|rfl|rfl|rfl
  ·exact one ca9 (by unfold inI;decide)
  ·exact one ca10 (by unfold inI;decide)
  ·exact one ca11 (by unfold inI;decide)
  ·exact one ca12 (by unfold inI;decide)
 have z:V.sub U:=s1.trans sU
 haveI:Tab U:=Tab.sub (V:=V) inferInstance z
 have mv:m.v=.agg #[(qDP b8 1).v,(qDP b13 4).v]:=by rw[hm];rfl
 show Tri _ _ #[d.v,.agg #[(qDP b8 1).v,(qDP b13 4).v],.int .i64 1,.int .i64 2] ((((((V1.set b8 (.cells ([4].map (Value.int .i64)).toArray 3 (0,0))).set b9 (.cells ([0].map (Value.int .i64)).toArray 3 (0,0))).set b10 (.cells ([1].map (Value.int .i64)).toArray 3 (0,0))).set b11 (.cells ([2].map (Value.int .i64)).toArray 3 (0,0))).set b12 (.cells ([3].map (Value.int .i64)).toArray 3 (0,0))).set b13 (.cells #[.int .i64 0,(qDP b9 1).v,.int .i64 0,(qDP b10 1).v,.int .i64 0,(qDP b11 1).v,.int .i64 0,(qDP b12 1).v] 92 (0,0))) _
 rw[<- hU,<- mv]
 clear hU t8 t9 t10 t11 t12 t13 h8 h9 h10 h11 h12 h13
 refine Tri.mono (c14 (hd.sub sU) M (k:=1) (size:=2)) ?_
 rintro _ V8 ⟨p,rfl,s8,-,hp⟩
 have G1:qAs d m=true:=by rw[hm];exact(ch_gd SD).mem
 have e8:=qKo (k:=1) (size:=2) G1 (by decide)
 obtain⟨zs,o8,P8⟩:=hp e8
 obtain rfl:zs=[0,0,1,1]:=by rw[hm]at P8;exact ch_place SD P8 ch_pl1
 refine⟨_,_,rfl,Tri.mono c37 ?_⟩
 rintro _ V9 ⟨s9,d2,rfl,SD2,hd2⟩
 haveI:Tab V9:=Tab.sub (V:=U) inferInstance (s8.trans s9)
 refine⟨_,_,_,_,_,_,_,_,rfl,?_⟩
 show Tri _ _ #[d2.v,.agg #[(qDP b8 1).v,(qDP b13 4).v],.int .i64 4,.int .i64 2] V9 _
 rw[<- mv]
 refine Tri.mono (c14 hd2 (M.sub (s8.trans s9)) (k:=4) (size:=2)) ?_
 rintro _ V10 ⟨p2,rfl,s10,-,hp2⟩
 have G2:qAs d2 m=true:=by rw[hm];exact(ch_gd SD2).mem
 have e10:=qKo (k:=4) (size:=2) G2 (by decide)
 obtain⟨zs2,o10,P10⟩:=hp2 e10
 obtain rfl:zs2=[1,1,0,0]:=by rw[hm]at P10;exact ch_place SD2 P10 ch_pl4
 have r8:=(o8.rows (row:=qAd) (xs:=[0,0,1,1]) (fun _=>rfl) (by decide)).sub (s9.trans s10)
 have r10:=o10.rows (row:=qAd) (xs:=[1,1,0,0]) (fun _=>rfl) (by decide)
 refine⟨_,_,rfl,and_self_iff.2 (Tri.mono c37 ?_)⟩
 rintro _ V11 ⟨s11,d3,rfl,SD3,hd3⟩
 refine⟨_,_,_,_,_,_,_,_,rfl,fun b34 h34=>?_⟩
 have t34:=Mem.sub_new h34 (.cells (([1,1,0,0]:List Int).map (Value.int .i64)).toArray 3 (0,0))
 have z12:U.sub (V11.set b34 (.cells (([1,1,0,0]:List Int).map (Value.int .i64)).toArray 3 (0,0))):=s8.trans (s9.trans (s10.trans (s11.trans t34)))
 haveI:Tab (V11.set b34 (.cells (([1,1,0,0]:List Int).map (Value.int .i64)).toArray 3 (0,0))):=Tab.sub (V:=U) inferInstance z12
 show Tri _ _ #[d3.v,.agg #[(qDP b8 1).v,(qDP b13 4).v],(qDP b34 4).v,.int .i64 2,.int .i64 1,.agg #[.string qHj,qAT.v],.int .i64 100] (V11.set b34 (.cells (([1,1,0,0]:List Int).map (Value.int .i64)).toArray 3 (0,0))) _
 rw[<- mv]
 refine Tri.mono (c19 (nm:=qHj) (args:=[]) (pl:=[1,1,0,0]) (size:=2) (most:=1) (hd3.sub t34) (M.sub z12) qAc.nil (.inl (by decide)) (qDX (xs:=[1,1,0,0]) mss rfl (by decide))) ?_
 rintro _ V13 (⟨h,-⟩|⟨-,r,gs,ns,ls,nd,q,hr,L,hq,rfl⟩)
 ·exact absurd (by rw[hm];exact ch_exr SD3) h
 rw[hm]at hr
 obtain⟨k1,k2,k3,k4,k5,k6⟩:=ch_play SD3 hr
 rw[k1,k2,k3,k4,k6]
 rw[k5]at hq
 have s13:=t34.trans L.sub
 have eq:∀{V':Mem} {s t:Sl} {xs:List Int},V.sub V'->qAc V' s 1 (xs.map qAd)->qAc V' t 1 (xs.map qAd)->∀{q:Ending->Mem->Prop},(V.sub V'->q (.returned (.bool true)) V')->Tri Tryz.prog 13 #[s.v,t.v] V' q:=fun h h1 h2 _ hq=>(c13 h1 h2).call (by rw[decide_eq_true rfl];exact hq h)
 have z13:V.sub V13:=z.trans (z12.trans L.sub)
 refine⟨_,_,_,_,_,_,_,_,_,rfl,fun _ b14 h14=>?_,fun h=>absurd e8 h⟩
 have t14:=Mem.sub_new h14 (.cells (([0,0,1,1]:List Int).map (Value.int .i64)).toArray 3 (0,0))
 refine eq (xs:=[0,0,1,1]) (t:=qDP b14 4) (z13.trans t14) (r8.sub (s11.trans (s13.trans t14))) (qDX (xs:=[0,0,1,1]) mss rfl (by decide)) fun z14=>⟨_,rfl,fun _=>⟨fun _ b16 h16=>?_,fun h=>absurd e10 h⟩,fun h=>absurd rfl h⟩
 have t16:=Mem.sub_new h16 (.cells (([1,1,0,0]:List Int).map (Value.int .i64)).toArray 3 (0,0))
 refine eq (xs:=[1,1,0,0]) (t:=qDP b16 4) (z14.trans t16) (r10.sub (s11.trans (s13.trans (t14.trans t16)))) (qDX (xs:=[1,1,0,0]) mss rfl (by decide)) fun z16=>⟨_,rfl,fun _=>⟨fun _=>⟨fun _ b18 h18=>?_,fun h=>absurd ⟨rfl,rfl,rfl,rfl,rfl⟩ h⟩,fun h=>absurd rfl h⟩,fun h=>absurd rfl h⟩
 have t18:=Mem.sub_new h18 (.cells (([1,1,0,0]:List Int).map (Value.int .i64)).toArray 3 (0,0))
 exact eq (xs:=[1,1,0,0]) (t:=qDP b18 4) (z16.trans t18) (hq.sub (t14.trans (t16.trans t18))) (qDX (xs:=[1,1,0,0]) mss rfl (by decide)) fun z18=>⟨_,rfl,rfl,z18⟩
end
section
variable{V:Mem}{d:Ds}{m:Mm}{ps:Sl}{pl:List Int}
theorem c3[Tab V](hd:Ds.Ok V d)(hm:Mm.Ok V m){k size:Int}(hp:qAc V ps 1 (pl.map qAd)):PP 3 [d.v,m.v,.int .i64 k,.int .i64 size,ps.v] V (.bool true):=by
 obtain⟨R,hR⟩:∃R:Ending->Mem->Prop,R=fun e V'=>e=.returned (.bool true)/\V.sub V':=⟨_,rfl⟩
 refine Pur.mk ?_
 rw[<- hR]
 refine x3 ?_
 unfold w3
 have fin:∀{V'},V.sub V'->R (.returned (.bool true)) V':=fun h=>by rw[hR];exact⟨rfl,h⟩
 refine c9.call ⟨_,rfl,fun _=>?_,fun h=>absurd rfl h⟩
 refine Tri.mono (c10 hd hm) ?_
 rintro _ _ ⟨rfl,b,rfl,-⟩
 have hn:=hp.n_eq
 have dup:∀{a b c A X:Prop},A->X->Br a (Br b A (Br c A X)) (Br c A X):=fun h x=>⟨fun _=>⟨fun _=>h,fun _=>⟨fun _=>h,fun _=>x⟩⟩,fun _=>⟨fun _=>h,fun _=>x⟩⟩
 refine⟨_,rfl,fun _=>fin (Mem.sub.refl _),fun _=>dup (fin (Mem.sub.refl _)) ?_⟩
 refine Tri.mono (c11 hp) ?_
 rintro _ V3 ⟨s3,s,ys,c,rfl,hs,F3⟩
 refine⟨_,_,rfl,Tri.mono (c12 (hp.sub s3)) ?_⟩
 rintro _ V4 ⟨s4,t,zs,c',rfl,ht,F4⟩
 obtain⟨rfl,rfl⟩:=F3.eq F4
 refine⟨_,_,rfl,(c13 (hs.sub s4) ht).call ⟨_,rfl,fun _=>⟨fun _=>?_,fun h=>absurd rfl h⟩,fun h=>absurd (decide_eq_true rfl) h⟩⟩
 have s34:=s3.trans s4
 haveI:Tab V4:=Tab.sub inferInstance s34
 have hd4:=hd.sub s34
 have hm4:=hm.sub s34
 refine Tri.mono (c14 hd4 hm4 (k:=k) (size:=size)) ?_
 rintro _ V6 ⟨q,rfl,s6,hno,hyes⟩
 have s46:=s34.trans s6
 have z:plF d m k size≠0->∀{b:Bool},b=decide ((q.n:Int)=0)->R (.returned (.bool b)) V6:=fun h _ hb=>by
  rw[hb,hno h];exact fin s46
 refine⟨_,_,rfl,(c15 (hd4.sub s6) (hm4.sub s6)).call ⟨_,rfl,fun hv=>?_,fun hv=>?_⟩⟩
 ·have hv:qAs d m=true:=hv
  have bad:¬(1<=k/\k<=4/\1<=size/\size<=64)->plF d m k size=2:=fun h=>by unfold plF;rw[if_pos hv,if_neg h]
  have out:¬(1<=k/\k<=4/\1<=size/\size<=64)->Br (plF d m k size=2) (R (rV (uB (decide ((q.n:Int)=0)))) V6) (R (rV (uB false)) V6):=fun h=>⟨fun _=>z (by rw[bad h];decide) rfl,fun h2=>absurd (bad h) h2⟩
  refine⟨fun h=>out (by omega),fun h1=>⟨fun h=>out (by omega),fun h2=>?_⟩⟩
  refine c16.call ⟨_,rfl,fun h3=>?_,fun h3=>out fun h=>h3 (decide_eq_true h.2.2)⟩
  have h3:1<=size/\size<=64:=of_decide_eq_true h3
  have h0:=qKo (k:=k) (size:=size) hv ⟨by omega,by omega,h3⟩
  refine⟨fun _=>?_,fun h=>absurd h0 h⟩
  obtain⟨zs,o,P⟩:=hyes h0
  have hvd:qAz d=true:=by grind [qAs,qKE]
  obtain⟨n,rfl⟩:∃n:Nat,size=(n:Int):=⟨size.toNat,by omega⟩
  refine Tri.mono (c17 (size:=n) hvd hv (hd4.sub s6) (hm4.sub s6) (k:=k) (by omega) (by omega)) ?_
  rintro _ V9 ⟨q2,zs2,rfl,o2,P2⟩
  rw[Int.toNat_natCast]at P
  obtain rfl:=place_eq hv (by omega) P P2
  refine⟨_,rfl,(c13 ((o.rows (row:=qAd) (fun _=>rfl) (by decide)).sub o2.sub) (o2.rows (row:=qAd) (fun _=>rfl) (by decide))).call ⟨_,rfl,?_⟩⟩
  rw[decide_eq_true rfl]
  exact fin (s46.trans o2.sub)
 ·have h1:plF d m k size=1:=by unfold plF;rw[if_neg hv]
  exact⟨fun _=>z (by rw[h1];decide) rfl,fun h=>absurd h1 h⟩
end
end Go.Proofs
