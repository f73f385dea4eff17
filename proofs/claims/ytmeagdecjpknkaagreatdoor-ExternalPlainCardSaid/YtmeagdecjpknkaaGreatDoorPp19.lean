/- Part 19 of a proof of a law of this seat: no statement of the seat is proved here. -/
import Derived.Test.YtmeagdecjpknkaaGreatDoorPp18
import Derived.Test.YtmeagdecjpknkaaGreatDoorPp16
import Derived.Test.YtmeagdecjpknkaaGreatDoorPp17
set_option linter.unusedVariables false
set_option linter.unusedSimpArgs false
namespace Go.Proofs
open Go Go.Sx
attribute [local irreducible] Go.Sx.Tri
theorem loop3b{V:Mem}{β γ:Type}{mk:β->Value}{mc:γ->Value}{B:β->γ->Int->Mem->(List Value->Mem->Prop)->Prop}{b0:β}{c0:γ}(ib:∀x y,mk x=mk y->x=y)(ic:∀x y,mc x=mc y->x=y)(len:Nat)(St:Nat->β->γ->Mem->Prop)(h0:St 0 b0 c0 V)
  (step:∀(i:Nat) (b:β) (c:γ) V1 J,i<=len->St i b c V1->(i<len->∀b' c' V2,St (i+1) b' c' V2->J [mk b',mc c',.int .i64 ((i:Int)+1)] V2)->B b c (i:Int) V1 J) :
  ∃(I:Nat->List Value->Mem->Prop) (n0:Nat),I n0 [mk b0,mc c0,.int .i64 0] V/\∀n V1,∀b:β,∀c:γ,∀v:Int,I n [mk b,mc c,.int .i64 v] V1->∀J:List Value->Mem->Prop,(∀m ys V'',m<n->I m ys V''->J ys V'')->B b c v V1 J:=by
 refine⟨LI len fun i xs V=>∃b c,xs=[mk b,mc c,.int .i64 i]/\St i b c V,len,LI.start ⟨b0,c0,rfl,h0⟩,?_⟩
 rintro n V1 b c v ⟨i,rfl,hi,b',c',hx,hs⟩ J hJ
 simp only[List.cons.injEq,Value.int.injEq,true_and,and_true]at hx
 obtain⟨hb,hc,rfl⟩:=hx
 cases ib _ _ hb;cases ic _ _ hc
 exact step i b c V1 J hi hs fun hlt b' c' V2 h2=>LI.next hJ hlt ⟨b',c',rfl,h2⟩
theorem qHH{t:ByteArray}(h:t=qAW∨t=qAu):qBw t=true:=by
 unfold qBw
 rcases h with rfl|rfl <;> simp
section
variable{V0 V:Mem}{d:Ds}{m:Mm}
theorem c177{s:Sl}{l:List Int}(h:qAc V s 1 (l.map qAe)){x:Int}:PP 177 [s.v,.int .i64 x] V (.int .i64 (posI l x)):=by
 refine x177 ?_
 unfold w177
 refine qAI (mk:=.int .i64) (b0:=0) l.length (fun j V1=>V=V1/\qBg (fun y:Int=>!decide (y=x)) l j) ⟨rfl,qBg.zero _ _⟩ ?_
 rintro j b V1 J hj ⟨rfl,ha⟩ hJ
 refine⟨fun hlt=>?_,fun hge=>?_⟩
 ·obtain⟨y,hym,hy,-,hjl,hp,hz,hrow⟩:=h.get hlt
  refine⟨hp,hz,hlt,_,hrow,fun hE=>?_,fun hE=>⟨h.succ hlt,hJ hjl _ _ ⟨rfl,qFt ha hy (decide_eq_false hE)⟩⟩⟩
  have e:posI l x=(j:Int):=by unfold posI;exact qGS ha hy (decide_eq_true hE)
  rw[e];exact⟨rfl,rfl⟩
 ·have e:posI l x=-1:=by unfold posI;exact qID ha (h.done hge).2
  rw[e];exact⟨rfl,rfl⟩
theorem pos_neg{l:List Int}{x:Int}:¬(0<=posI l x)↔¬x∈l:=by
 unfold posI
 rcases qBd (fun y=>decide (y=x)) l with⟨h1,-,h2⟩|⟨i,y,h1,h2,-,h3,h4,-⟩
 ·rw[h1]
  refine⟨fun _ hx=>?_,fun _=>by decide⟩
  rw[List.any_eq_false]at h2
  exact absurd (decide_eq_true rfl) (h2 x hx)
 ·rw[h1]
  have e:y=x:=of_decide_eq_true h4
  exact⟨fun h=>absurd (Int.natCast_nonneg _) h,fun h=>absurd (e ▸ List.mem_of_getElem? h2) h⟩
theorem tgtI_in{xs:List Fld}{vs:List Int}(h:qAg d m xs vs=true){i:Nat}:∀y∈tgtI xs vs i,1<=y/\y<=(m.nodes.length:Int):=fun y hy=>by
 have:y∈tgt xs vs:=by
  unfold tgtI at hy;unfold tgt
  obtain⟨a,ha,rfl⟩:=List.mem_map.1 hy
  obtain⟨h1,h2⟩:=List.mem_filter.1 ha
  exact List.mem_map.2 ⟨a,List.mem_filter.2 ⟨List.mem_of_mem_take h1,h2⟩,rfl⟩
 obtain⟨j,f,h1,h2,h3,h4⟩:=tgt_mem.1 this
 exact qJz h h1 h2 h3 h4
def LookRP(V0:Mem)(st:Sr):Ending->Mem->Prop:=fun e V'=>∃s:Sl,e=.returned (.agg #[s.v,.int .i64 st.again])/\Sx.Own V0 V' 3 1 s (st.order.flatMap qAe)
variable(V0 d m) in
def LookRC(N:Nat):Prop:=∀(st:Sr) (f:Nat) V (s l q:Sl) (xs:List Fld) (vs:List Int),unS m st<=N->unS m st<f->st.order.length+unS m st<=m.nodes.length->qAc V0 l 2 (xs.map Fld.row)->qAc V0 q 1 (vs.map qAe)->qAg d m xs vs=true->Sx.Own V0 V 3 1 s (st.order.flatMap qAe) ->
 Tri Tryz.prog 135 #[d.v,m.v,.agg #[s.v,.int .i64 st.again],l.v,q.v] V (LookRP V0 (lookP d m f st xs vs))
theorem lookRC(hmv:qAs d m=true)(hd:Ds.Ok V0 d)(hm:Mm.Ok V0 m)(N:Nat)(ih:∀N',N'<N->LookRC V0 d m N'):LookRC V0 d m N:=by
 intro st f V s l q xs vs hN hf hcap hl hq hv ho
 refine Tri.mono (x135 (R:=LookRP V0 (lookP d m f st xs vs)) ?_) fun _ _ h=>h
 unfold w135
 have hlen:xs.length=vs.length:=by
  unfold qAg at hv
  rw[Bool.and_eq_true,decide_eq_true_eq]at hv
  exact hv.1
 have m4:=(qAh hmv).2.1
 refine loop3b (mk:=fun s:Sl=>.slice s.p s.n s.c) (mc:=.int .i64) (b0:=s) (c0:=st.again) qBA qGk xs.length (fun i s1 a V1=>a=((tgtI xs vs i).foldl (qCK d m f) st).again/\Sx.Own V0 V1 3 1 s1 (((tgtI xs vs i).foldl (qCK d m f) st).order.flatMap qAe)) ⟨rfl,ho⟩ ?_
 rintro i s1 a V1 J hi ⟨rfl,h1⟩ hJ
 obtain⟨sti,hsti⟩:∃sti,sti=(tgtI xs vs i).foldl (qCK d m f) st:=⟨_,rfl⟩
 rw[<- hsti]at h1 ⊢
 have hu:unS m sti<=unS m st:=by rw[hsti];exact unS_le fun z hz=>foldP_sub d m f z _ _ hz
 have hcl:Cl d m st sti:=by rw[hsti];exact(qKP (ent_cl hmv f) (tgtI xs vs i) st (tgtI_in hv) hf).1
 have hcap1:=hcl.cap hcap
 have hl1:=hl.sub h1.sub
 have hq1:=hq.sub h1.sub
 refine⟨fun hlt=>?_,fun hge=>?_⟩
 ·obtain⟨x,hxm,hx,-,hil,hp,hz,hrow⟩:=hl1.get hlt
  have n1:=hl1.n_eq
  have n2:=hq1.n_eq
  obtain⟨y,hym,hy,-,hjl,hpy,hzy,hrowy⟩:=hq1.get (i:=i) (by omega)
  have same:qCZ (x,y)=false->J [.slice s1.p s1.n s1.c,.int .i64 sti.again,.int .i64 ((i:Int)+1)] V1:=fun hr=>by
   refine hJ hil s1 sti.again V1 ?_
   rw[qEn hx hy,hr,if_neg (by decide),List.append_nil,<- hsti];exact⟨rfl,h1⟩
  have pl:qBw x.ty=true->qCZ (x,y)=false:=fun h=>by unfold qCZ;rw[show qBw x.ty=true from h];rfl
  refine⟨hpy,hzy,by omega,_,hrowy,hp,hz,hlt,qAf hp,_,_,hrow,fun h2=>⟨hl1.succ hlt,same (pl ?_)⟩,fun h2=>⟨hp,hz,hlt,qAf hp,_,_,hrow,fun h3=>⟨hl1.succ hlt,same (pl ?_)⟩,fun h3=>⟨fun h4=>⟨hl1.succ hlt,same ?_⟩,fun h4=>?_⟩⟩⟩
  ·have h2:x.ty=qAW:=h2
   unfold qBw;simp[h2]
  ·have h3:x.ty=qAu:=h3
   unfold qBw;simp[h3]
  ·have h4:y=0:=h4
   unfold qCZ;rw[h4];simp
  have hpl:qBw x.ty=false:=by
   have h2:¬x.ty=qAW:=h2
   have h3:¬x.ty=qAu:=h3
   unfold qBw;simp[h2,h3]
  have h4:¬y=0:=h4
  have hr:qCZ (x,y)=true:=by unfold qCZ;rw[hpl,decide_eq_true h4];rfl
  have hy1:=qJz hv hx hy hpl h4
  have next:∀(s':Sl) V2,Sx.Own V0 V2 3 1 s' ((qCK d m f sti y).order.flatMap qAe)->J [.slice s'.p s'.n s'.c,.int .i64 (qCK d m f sti y).again,.int .i64 ((i:Int)+1)] V2:=fun s' V2 h=>by
   refine hJ hil s' _ V2 ?_
   rw[qEn hx hy,hr,if_pos rfl,List.foldl_append,List.foldl_cons,List.foldl_nil,<- hsti]
   exact⟨rfl,h⟩
  obtain⟨f,rfl⟩:∃f',f=f'+1:=⟨f-1,by omega⟩
  refine(c177 (h1.rows (fun _=>rfl) (by decide))).call ⟨_,rfl,fun h5=>?_,fun h5=>?_⟩
  ·have hin:y∈sti.order:=Classical.not_not.1 fun h=>pos_neg.2 h h5
   have e:qCK d m (f+1) sti y=⟨sti.order,if sti.again=0 then y else sti.again⟩:=by unfold qCK;rw[if_pos hin]
   rw[e]at next
   refine⟨fun h6=>⟨hl1.succ hlt,?_⟩,fun h6=>⟨hl1.succ hlt,?_⟩⟩
   ·have h6:sti.again=0:=h6
    rw[if_pos h6]at next
    exact next s1 V1 h1
   ·have h6:¬sti.again=0:=h6
    rw[if_neg h6]at next
    exact next s1 V1 h1
  ·have hin:¬y∈sti.order:=pos_neg.1 h5
   have hlt2:=unS_lt (st:=sti) hy1 hin (a:=sti.again)
   intro tb htb
   refine qFF (s:=s1) (u:=⟨some ⟨tb,0,none⟩,1,1⟩) (xs:=sti.order) (ys:=[y]) rfl rfl (h1.but.new htb (.cells #[.int .i64 y] 3 (0,0))) (qKx mss) (by simp;omega) fun o2 V2 ho2=>⟨o2,rfl,?_⟩
   have ho3:Sx.Own V0 V2 3 1 o2 ((sti.order++[y]).flatMap qAe):=ho2.narrow h1.sub_but
   obtain⟨k,rfl⟩:∃k:Nat,y=(k:Int)+1:=⟨(y-1).toNat,by omega⟩
   have hmm:=hm.sub ho3.sub
   have hdd:=hd.sub ho3.sub
   have hnn:=hmm.nodes.n_eq
   obtain⟨z,hzm,hz',-,hl2,hpx,hzx,hrowx⟩:=hmm.nodes.get (i:=k) (by omega)
   obtain⟨c1,c2⟩:=of_decide_eq_true ((qAh hmv).2.2.1 z hzm)
   obtain⟨j,hj⟩:∃j:Nat,z.ty=(j:Int):=⟨_,(Int.toNat_of_nonneg c1).symm⟩
   have htn:=hdd.types.n_eq
   obtain⟨t,htm,ht,-,hl3,hpt3,hzt,hrowt⟩:=hdd.types.get (i:=j) (by omega)
   have hI:IR ((k:Int)):=⟨by omega,by have:=(hmm.nodes.succ (i:=k) (by omega)).2;omega⟩
   have hfo:=qAO ht hj
   have hvals:=(qAh hmv).2.2.2.2 z hzm
   rw[hfo]at hvals
   rw[show ((k:Int)+1-1)=(k:Int) by omega]
   refine⟨hI,hpx,hzx,by omega,qAf hpx,_,_,hrowx,?_⟩
   rw[hj]
   refine⟨hpt3,hzt,by omega,qAf hpt3,_,_,hrowt,hI,hpx,hzx,by omega,qAf hpx,_,_,hrowx,?_⟩
   refine Tri.mono (ih (unS m ⟨sti.order++[(k:Int)+1],sti.again⟩) (by omega) ⟨sti.order++[(k:Int)+1],sti.again⟩ f V2 o2 t.fs z.sl t.fields z.f (Nat.le_refl _) (by omega) ?_ (hd.typesOk t htm).fields (hm.nodesOk z hzm).rows hvals ho3) ?_
   ·show (sti.order++[(k:Int)+1]).length+_<=_
    rw[List.length_append,List.length_singleton];omega
   rintro _ V5 ⟨s5,rfl,h6⟩
   have e:qCK d m (f+1) sti ((k:Int)+1)=lookP d m f ⟨sti.order++[(k:Int)+1],sti.again⟩ t.fields z.f:=by
    rw[qCK,if_neg hin]
    unfold qAH lookP
    rw[show ((k:Int)+1-1).toNat=k by omega,hz']
    show (tgt (qAo d z.ty) z.f).foldl _ _=_
    rw[hfo]
   rw[<- e]at h6 ⊢
   exact⟨_,_,rfl,hl1.succ hlt,next s5 V5 h6⟩
 ·have hdn:=(hl1.done hge).2
  rw[qKb hdn]at hsti
  have e:lookP d m f st xs vs=sti:=hsti.symm
  rw[e]
  exact⟨s1,rfl,h1⟩
theorem c87(hmv:qAs d m=true)(hd:Ds.Ok V d)(hm:Mm.Ok V m):Tri Tryz.prog 87 #[d.v,m.v] V (LookRP V (qBq d m)):=by
 refine Tri.mono (x87 (R:=LookRP V (qBq d m)) ?_) fun _ _ h=>h
 unfold w87
 have hu:=qJX (m:=m)
 have all:∀N,LookRC V d m N:=fun N=>Nat.strongRecOn N fun N ih=>lookRC hmv hd hm N ih
 refine Tri.mono (all m.nodes.length ⟨[],0⟩ (m.nodes.length+1) V ⟨none,0,0⟩ d.gs m.gs d.globals m.globals hu (by omega) (by show 0+_<=_;omega) hd.globals hm.globals (qAh hmv).2.2.2.1 (Own.nil (Mem.sub.refl V) _ _)) ?_
 rintro _ V2 ⟨s,rfl,h⟩
 exact⟨_,_,rfl,s,rfl,h⟩
end
section
variable{V:Mem}{d:Ds}{m:Mm}
theorem c142{l q o:Sl}{xs:List Fld}{vs O:List Int}(hl:qAc V l 2 (xs.map Fld.row))(hq:qAc V q 1 (vs.map qAe))(ho:qAc V o 1 (O.map qAe))(hO:O.length<=4096)(he:xs.length=vs.length)(hb:xs.length<=4096) :
  Tri Tryz.prog 142 #[l.v,q.v,o.v] V fun e V'=>∃s:Sl,e=.returned (.slice s.p s.n s.c)/\Sx.Own V V' 3 1 s ((renL O xs vs).flatMap qAe):=by
 refine x142 ?_
 unfold w142
 have hrl:=renL_len (O:=O) he
 refine qFi (mk:=fun s:Sl=>.slice s.p s.n s.c) (b0:=⟨none,0,0⟩) qBA xs.length (fun i s V1=>Sx.Own V V1 3 1 s (((renL O xs vs).take i).flatMap qAe)) (Own.nil (Mem.sub.refl _) _ _) ?_
 rintro i s V1 J hi h1 hJ
 have hl1:=hl.sub h1.sub
 have hq1:=hq.sub h1.sub
 refine⟨fun hlt=>?_,fun hge=>?_⟩
 ·obtain⟨x,hxm,hx,-,hil,hp,hz,hrow⟩:=hl1.get hlt
  have n2:=hq1.n_eq
  obtain⟨y,hym,hy,-,hjl,hpy,hzy,hrowy⟩:=hq1.get (i:=i) (by omega)
  have hre:=ren_at (O:=O) hx hy
  have add:∀{w z:Int} {V2:Mem} {ty:Nat} {a b:Operand} {vals:Operand->Value},V1=V2->w=(if qBw x.ty=true then y else rho O y)->z=w->∀tb,V2 tb=none->vals a=.slice s.p s.n s.c->vals b=.slice (sa tb) 1 1 ->
    GenK Tryz.prog (.call { callee:=.builtin .append,args:=#[a,b],argTypes:=#[31,31] }) ty vals (V2.set tb (.cells #[.int .i64 z] 3 (0,0))) fun x V3=>∃v9:Sl,x=uL v9/\IR ((i:Int)+1)/\J [uL v9,uI ((i:Int)+1)] V3:=fun {w z V2 ty a b vals} e hw hz tb htb ha hb=>by
   subst e;subst hz
   refine qFF (s:=s) (u:=⟨some ⟨tb,0,none⟩,1,1⟩) (xs:=(renL O xs vs).take i) (ys:=[z]) ha hb (h1.but.new htb (.cells #[.int .i64 z] 3 (0,0))) (qKx mss) (by rw[List.length_take];simp;omega) fun o2 V3 ho2=>⟨o2,rfl,hl1.succ hlt,hJ hil _ _ ?_⟩
   rw[List.take_add_one,hre,<- hw]
   exact ho2.narrow h1.sub_but
  have pl:∀{c:Bool},qBw x.ty=c->(if qBw x.ty=true then y else rho O y)=if c=true then y else rho O y:=fun h=>by rw[h]
  refine⟨hpy,hzy,by omega,_,hrowy,hp,hz,hlt,qAf hp,_,_,hrow,fun h2 tb htb=>add rfl (by rw[pl (qHH (.inl h2))];rfl) rfl tb htb rfl rfl,fun h2=>⟨hp,hz,hlt,qAf hp,_,_,hrow,fun h3 tb htb=>add rfl (by rw[pl (qHH (.inr h3))];rfl) rfl tb htb rfl rfl,fun h3=>?_⟩⟩
  have hpl:qBw x.ty=false:=by
   have h2:¬x.ty=qAW:=h2
   have h3:¬x.ty=qAu:=h3
   unfold qBw;simp[h2,h3]
  refine⟨fun h4 tb htb=>add rfl ?_ rfl tb htb rfl rfl,fun h4=>?_⟩
  ·have h4:y=0:=h4
   rw[pl hpl,h4];exact(rho_zero (O:=O)).symm
  ·refine(c177 (ho.sub h1.sub)).call ⟨_,rfl,?_,fun tb htb=>add rfl ?_ rfl tb htb rfl rfl⟩
   ·unfold posI
    rcases qBd (fun z=>decide (z=y)) O with⟨e,-⟩|⟨j,_,e,-,-,e2,-⟩
    ·rw[e];exact⟨by omega,by omega⟩
    ·rw[e];exact⟨by omega,by omega⟩
   ·have h4:¬y=0:=h4
    rw[pl hpl];unfold rho;rw[if_neg h4];rfl
 ·have hd:=(hl1.done hge).2
  rw[List.take_of_length_le (by omega)]at h1
  exact⟨s,rfl,h1⟩
theorem lens_of(h:qAE d=true):d.globals.length<=8/\∀t∈d.types,t.fields.length<=12:=by
 unfold qAE at h
 simp only[Bool.and_eq_true,List.all_eq_true]at h
 obtain⟨⟨⟨⟨⟨h1,h2⟩,-⟩,hT⟩,-⟩,hF⟩:=h
 have hg:=h1.2
 unfold qCR at hg
 rw[Bool.and_eq_true,decide_eq_true_eq]at hg
 refine⟨by have:=hg.1;omega,fun t ht=>?_⟩
 have:=hT t ht
 unfold tyB qCR at this
 simp only[Bool.and_eq_true,decide_eq_true_eq]at this
 have:=this.2.1
 omega
theorem qGA{l:List Fld}{vs:List Int}(h:qAg d m l vs=true):l.length=vs.length:=by
 unfold qAg at h
 rw[Bool.and_eq_true,decide_eq_true_eq]at h
 exact h.1
theorem c96(G:qAx d m)(hd:Ds.Ok V d)(hm:Mm.Ok V m):Tri Tryz.prog 96 #[d.v,m.v] V fun e V'=>V.sub V'/\∃c:Mm,e=.returned (.agg #[c.gs.v,c.ns.v])/\Mm.Ok V' c/\IsCan d m c (qBq d m).order:=by
 refine x96 ?_
 unfold w96
 refine Tri.mono (c87 G.mem hd hm) ?_
 rintro _ V1 ⟨o,rfl,ho⟩
 have R:=qFW G.mem
 obtain⟨p1,p2,p3,p4,p5⟩:=qAh G.mem
 obtain⟨l1,l2⟩:=lens_of G.valid
 have hcap:=R.cap
 have hoR:=ho.rows (fun _=>rfl) (by decide)
 refine⟨o,_,rfl,Tri.mono (c142 (hd.globals.sub ho.sub) (hm.globals.sub ho.sub) hoR (by omega) (qGA p4) (by omega)) ?_⟩
 rintro _ V2 ⟨gs,rfl,hg⟩
 refine⟨gs,rfl,?_⟩
 have hgR:=hg.rows (fun _=>rfl) (by decide)
 refine loop3b (mk:=fun s:Sl=>.slice s.p s.n s.c) (mc:=fun s:Sl=>.slice s.p s.n s.c) (b0:=gs) (c0:=⟨none,0,0⟩) qBA qBA (qBq d m).order.length (fun i b c V3=>b=gs/\∃nd,CanAt d m V2 V3 c i nd) ⟨rfl,[],rfl,(fun _ _ _ h=>by omega),V2,Mem.sub.refl _,Own.nil (Mem.sub.refl _) _ _,(fun _ h=>by cases h)⟩ ?_
 rintro i b s V3 J hi ⟨rfl,nd,C⟩ hJ
 obtain⟨W,hW,hown,hnd⟩:=C.mem
 have s03:V.sub V3:=((ho.sub.trans hg.sub).trans hW).trans hown.sub
 have hd3:=hd.sub s03
 have hm3:=hm.sub s03
 have ho3:=hoR.sub ((hg.sub.trans hW).trans hown.sub)
 refine⟨fun hlt=>?_,fun hge=>?_⟩
 ·obtain⟨n,hnm,hn,-,hil,hp,hz,hrow⟩:=ho3.get hlt
  have hr:=R.rng n hnm
  obtain⟨k,rfl⟩:∃k:Nat,n=(k:Int)+1:=⟨(n-1).toNat,by omega⟩
  have hnn:=hm3.nodes.n_eq
  obtain⟨z,hzm,hz',-,hl2,hpx,hzx,hrowx⟩:=hm3.nodes.get (i:=k) (by omega)
  obtain⟨c1,c2⟩:=of_decide_eq_true (p3 z hzm)
  obtain⟨j,hj⟩:∃j:Nat,z.ty=(j:Int):=⟨_,(Int.toNat_of_nonneg c1).symm⟩
  have htn:=hd3.types.n_eq
  obtain⟨t,htm,ht,-,hl3,hpt3,hzt,hrowt⟩:=hd3.types.get (i:=j) (by omega)
  have hI:IR ((k:Int)):=⟨by omega,by have:=(hm3.nodes.succ (i:=k) (by omega)).2;omega⟩
  have hfo:=qAO ht hj
  have hvals:=p5 z hzm
  rw[hfo]at hvals
  refine⟨hp,hz,hlt,_,hrow,?_⟩
  rw[show ((k:Int)+1-1)=(k:Int) by omega]
  refine⟨hI,hpx,hzx,by omega,_,_,hrowx,?_⟩
  rw[hj]
  refine⟨hpt3,hzt,by omega,qAf hpt3,_,_,hrowt,Tri.mono (c142 (hd3.typesOk t htm).fields (hm3.nodesOk z hzm).rows ho3 (by omega) (qGA hvals) (by have:=l2 t htm;omega)) ?_⟩
  rintro _ V4 ⟨fs,rfl,hf⟩
  refine⟨fs,rfl,fun tb htb=>?_⟩
  have ho4:=Own.growS hown hf.sub
  have hfR:=hf.rows (fun _=>rfl) (by decide)
  obtain⟨nn,hnn'⟩:∃nn:Nd,nn=⟨(j:Int),fs,renL (qBq d m).order t.fields z.f⟩:=⟨_,rfl⟩
  have hblk:qAc (V4.but s) fs 1 ((renL (qBq d m).order t.fields z.f).map qAe):=by
   have:Sx.Own (fun _=>none) (V4.but s) 3 1 fs ((renL (qBq d m).order t.fields z.f).flatMap qAe):=⟨(fun _ _ h=>by cases h),hf.len,by
    rcases hf.at_ with h|⟨g,cur,a,b,c,dd⟩
    ·exact .inl h
    ·exact .inr ⟨g,cur,a,rfl,Mem.but_at c (hown.apartN b),dd⟩⟩
   exact this.rows (fun _=>rfl) (by decide)
  have hn2:Nd.Ok (V4.but s) nn:=by
   rw[hnn']
   exact⟨hblk,⟨by show -9223372036854775808<=(j:Int);omega,by show (j:Int)<=9223372036854775807;have:=(hd3.types.succ (i:=j) (by omega)).2;omega⟩,ren_in (by omega) (hm3.nodesOk z hzm).vals⟩
  have hlen:nd.length<=4096:=by rw[C.len];omega
  refine app32 (s:=s) (u:=⟨some ⟨tb,0,none⟩,1,1⟩) (xs:=nd) (ys:=[nn]) rfl rfl (ho4.but.new htb (.cells #[uI (j:Int),uL fs] 92 (0,0))) (qAc.cells (xs:=[nn]) (row:=Nd.row) mss (by rw[hnn'];simp[Nd.row,Sl.v]) (fun _=>rfl) rfl (by simp)) (by simp;omega) fun o2 V5 ho2=>⟨o2,rfl,ho3.succ hlt,hJ hil _ _ _ ⟨rfl,nd++[nn],by rw[List.length_append,C.len];rfl,fun q w x hq hw hx=>?_,V4.but s,hW.trans ho4.sub_but,ho2,fun w hw=>?_⟩⟩
  ·by_cases hqi:q<i
   ·obtain⟨sl,hs⟩:=C.at_ q w x hqi hw hx
    exact⟨sl,by rw[List.getElem?_append_left (by rw[C.len];exact hqi)];exact hs⟩
   ·have:q=i:=by omega
    subst this
    rw[hn]at hw;cases hw
    rw[show ((k:Int)+1-1).toNat=k by omega,hz']at hx;cases hx
    refine⟨fs,?_⟩
    rw[<- C.len,List.getElem?_concat_length,hnn',hfo,hj]
  ·rcases List.mem_append.1 hw with hw|hw
   ·exact(hnd w hw).sub ho4.sub_but
   ·rw[List.mem_singleton.1 hw];exact hn2
 ·have hdn:=(ho3.done hge).2
  have hi':i=(qBq d m).order.length:=by omega
  refine⟨s03,⟨b,renL (qBq d m).order d.globals m.globals,s,nd⟩,rfl,⟨hgR.sub (hW.trans hown.sub),ren_in (by omega) hm.gIn,hown.rows (fun _=>rfl) (by decide),fun n hn=>(hnd n hn).sub hown.sub⟩,rfl,by rw[<- hi'];exact C.len,fun j n x hj hx=>C.at_ j n x (by rw[hi'];exact(List.getElem?_eq_some_iff.1 hj).1) hj hx⟩
end
section
variable{V:Mem}{d:Ds}{m:Mm}
theorem c132[Tab V](hmv:qAs d m=true)(hd:Ds.Ok V d)(hm:Mm.Ok V m):Tri Tryz.prog 132 #[d.v,m.v] V fun e V'=>∃o:Sl,e=.returned (.tuple #[.slice o.p o.n o.c,.int .i64 0])/\Sx.Own V V' 3 1 o ((qBq d m).order.flatMap qAe):=by
 refine x132 ?_
 unfold w132
 refine(c44 hd hm).call ⟨_,rfl,fun _=>Tri.mono (c176 hmv hd hm) ?_,fun h=>absurd hmv h⟩
 rintro _ V2 ⟨p,ib,o,rfl,h⟩
 exact⟨_,rfl,nn,nn,o,h.cell 10 1 (by decide),o,rfl,h.own⟩
end
theorem keys_len:∀(es:List MapEntry) (c:List Int),(∀e∈es,∃a,e.key=Value.int .i64 a)->es.Pairwise (fun e f=>e.key≠f.key)->c.Nodup->(∀a,(qEa es (.int .i64 a)).isSome=decide (a∈c))->es.length=c.length:=fun es c hk hd hc hl=>by
 have h1:∃ks:List Int,ks.map (Value.int .i64)=es.map (·.key):=by
  clear hd hl
  induction es with
  | nil=>exact⟨[],rfl⟩
  | cons e es ih =>
   obtain⟨ks,h⟩:=ih fun x hx=>hk x (by simp[hx])
   obtain⟨a,ha⟩:=hk e (by simp)
   exact⟨a::ks,by rw[List.map_cons,List.map_cons,h,ha]⟩
 obtain⟨ks,has⟩:=h1
 have hnd:ks.Nodup:=by
  have h2:=pair_keys.1 hd
  rw[<- has,List.pairwise_map]at h2
  exact h2.imp fun h e=>h (by rw[e])
 have hmem:∀a,a∈ks↔a∈c:=fun a=>by
  have h3:=hl a
  have h4:a∈ks↔∃e∈es,e.key=Value.int .i64 a:=by
   have:Value.int .i64 a∈ks.map (Value.int .i64)↔Value.int .i64 a∈es.map (·.key):=by rw[has]
   rw[List.mem_map,List.mem_map]at this
   constructor
   ·intro h;exact this.1 ⟨a,h,rfl⟩
   ·intro h;obtain⟨b,hb,e⟩:=this.2 h;cases e;exact hb
  rw[h4]
  have h5:(qEa es (.int .i64 a)).isSome=true↔∃e∈es,e.key=Value.int .i64 a:=by
   unfold qEa
   rw[Option.isSome_map,List.find?_isSome]
   simp
  rw[<- h5,h3,decide_eq_true_eq]
 have e1:es.length=ks.length:=by
  have:=congrArg List.length has
  simpa using this.symm
 have a1:=nodup_le ks c hnd fun x hx=>(hmem x).1 hx
 have a2:=nodup_le c ks hc fun x hx=>(hmem x).2 hx
 omega
theorem GenK.lenMap{P:Program}{V:Mem}{b:Nat}{f:Int->Option Value}{c:List Int}{t kt et ty:TypeId}(ht:P.underlying t=some (.map kt et))(hm:qFK (Value.int .i64) V b f)(hc:c.Nodup)(hd:∀a,(f a).isSome=decide (a∈c)){x:Operand}{vals:Operand->Value}(hx:vals x=.map (some b)){q:Value->Mem->Prop}(hq:q (.int .i64 c.length) V) :
  GenK P (.call { callee:=.builtin .len,args:=#[x],argTypes:=#[t] }) ty vals V q:=by
 intro w hw
 obtain⟨es,cl,h1,h2,h3,h4⟩:=hm.at_
 have hlen:=keys_len es.toList c h2 h3 hc fun a=>by rw[h4];exact hd a
 refine⟨_,w,V,?_,Frm.refl hw,hq⟩
 unfold execOp
 simp only[resolve,invoke,builtin,Sem.run_bind,Sem.run_pure,Result.andThen_ok,List.map_toArray,List.map_cons,List.map_nil,hx,Builtin.len_]
 simp only[List.getElem?_toArray,List.getElem?_cons_zero,Sem.run_bind,run_underlying ht,Result.andThen_ok,MapKept.run_getObj_map (hw _ _ h1),Sem.run_pure]
 rw[<- hlen]
 simp[goInt]
section
variable{V0 V:Mem}{p k n:Nat}{c:List Int}{b:Int}
theorem c63(h:CaAt p k c n V0 V)(hk:1<=k/\k<=1000)(hb:0<=b/\b<=1048576)(hn:n<2147483648):Tri Tryz.prog 63 #[pv p,.int .i64 b] V fun e V'=>e=.returned (.tuple #[.bool (decide (b∈c)),.int .i64 0])/\CaAt p k (tch k c b) (n+if b∈c then 0 else 1) V0 V':=by
 obtain⟨mb,S,B,N,P,L,f,h,hI⟩:=h
 obtain⟨R,hR⟩:∃R:Ending->Mem->Prop,R=fun e V'=>e=.returned (.tuple #[.bool (decide (b∈c)),.int .i64 0])/\CaAt p k (tch k c b) (n+if b∈c then 0 else 1) V0 V':=⟨_,rfl⟩
 rw[<- hR]
 refine x63 ?_
 unfold w63
 refine⟨fun h=>absurd h nn,fun _=>⟨fun h=>absurd hb.1 (Int.not_le.2 h),fun _=>⟨fun h=>absurd hb.2 (Int.not_le.2 h),fun _=>⟨nn,nn,_,h.cell 2 1 (by decide),?_⟩⟩⟩⟩
 refine qBv.key2 (k:=b) (qGi Tryz.underlying3) Tryz.underlying132 qFm h.mp ?_
 have hNl:=hI.nl
 have hPl:=hI.pl
 have hBl:=hI.bl
 by_cases hbc:b∈c
 ·-- a hit
  obtain⟨i,s,hci,hLi,hfb⟩:=hI.hit hbc
  obtain⟨pr,nx,k1,k2,k3,k4,k5⟩:=hI.around hLi
  have hsr:=hI.rng s (List.mem_of_getElem? hLi)
  rw[hfb]
  refine⟨s,true,rfl,fun _=>?_,fun h=>absurd rfl h⟩
  refine Tri.mono (c99 h k1 k2 (by omega) (by omega)) ?_
  rintro _ V1 ⟨rfl,h1⟩
  refine⟨rfl,fun _=>?_,fun h=>absurd rfl h⟩
  obtain⟨q,hq,hql⟩:∃q:Nat,(N.set pr nx)[0]?=some (q:Int)/\q<B.length:=by
   by_cases e:pr=0
   ·subst e
    exact⟨nx,by rw[List.getElem?_set_self (by omega)],k4⟩
   ·obtain⟨q,h1,h2⟩:=hI.head
    exact⟨q,by rw[List.getElem?_set_ne e];exact h1,h2⟩
  refine Tri.mono (c100 h1 hq (by rw[List.length_set];omega) (by rw[List.length_set];omega) (by rw[List.length_set];omega) (by omega)) ?_
  rintro _ V2 ⟨rfl,h2⟩
  refine⟨rfl,?_⟩
  rw[hR,decide_eq_true hbc,if_pos hbc]
  refine⟨rfl,mb,S,B,_,_,s::(L.take i++L.drop (i+1)),f,h2,?_⟩
  unfold tch
  rw[if_pos hbc]
  exact hI.touch hci hLi k5 hq
 ·-- a miss
  have hfb:=hI.no b hbc
  rw[hfb]
  refine⟨0,false,rfl,?_⟩
  refine⟨fun h=>absurd h (by decide),fun _=>⟨nn,nn,_,h.cell 2 1 (by decide),nn,nn,_,h.cell 0 1 (by decide),?_⟩⟩
  refine GenK.lenMap Tryz.underlying132 h.mp hI.cn (fun a=>by rw[Option.isSome_map];exact hI.dec) rfl ?_
  have hcap:=hI.cap
  have hR':R=fun e V'=>e=.returned (.tuple #[.bool false,.int .i64 0])/\CaAt p k (b::c.take (k-1)) (n+1) V0 V':=by
   rw[hR];unfold tch
   rw[decide_eq_false hbc,if_neg hbc,if_neg hbc]
  refine⟨_,rfl,qAN h.at_ 0 0 1 (by simp[crow]),nn,nn,fun hlt=>?_,fun hge=>?_⟩
  ·have hlk:c.length<k:=by have hlt:(c.length:Int)<(k:Int):=hlt;omega
   obtain⟨q,hq,hql⟩:=hI.head
   have hSn:=(h.bo.rows (row:=qAe) (xs:=B) (fun _=>rfl) (by decide)).n_eq
   have hB1:B.length<=1001:=by have:=hI.cl;omega
   have one:∀{U:Mem} {t:Nat} {x:Int},U t=none->qAc (U.set t (.cells #[.int .i64 x] 3 (0,0))) ⟨some ⟨t,0,none⟩,1,1⟩ 1 ([x].map qAe):=fun {U t x} ht=>qAc.cells (xs:=[x]) (row:=qAe) mss rfl (fun _=>rfl) rfl (by simp)
   refine⟨nn,nn,_,h.cell 3 1 (by decide),nn,nn,_,h.cell 3 1 (by decide),nn,nn,_,h.cell 4 1 (by decide),nn,nn,_,h.cell 5 1 (by decide),?_⟩
   rw[show (S.b.n:Int)=((B.length:Nat):Int) by rw[hSn]]
   repeat' apply And.intro
   all_goals first
    | exact nn
    | exact qAN h.at_ 3 0 1 (by simp[crow])
    | exact qAN h.at_ 4 0 1 (by simp[crow])
    | exact qAN h.at_ 5 0 1 (by simp[crow])
    | skip
   all_goals
    intro b1 hb1
    refine qFF (s:=S.b) (xs:=B) (ys:=[b]) rfl rfl (h.bo.but.new hb1 _) (one hb1) (by simp;omega) fun s1 V3 o1=>⟨s1,rfl,?_⟩
    have h3:=h.pushB o1
    repeat' apply And.intro
    all_goals first
     | exact nn
     | exact qAN h3.at_ 4 0 1 (by simp[crow])
     | exact qAN h3.at_ 5 0 1 (by simp[crow])
     | skip
    all_goals
     intro b2 hb2
     refine qFF (s:=S.n) (xs:=N) (ys:=[0]) rfl rfl (h3.no.but.new hb2 _) (one hb2) (by simp;omega) fun s2 V5 o2=>⟨s2,rfl,?_⟩
     have h5:=h3.pushN o2
     repeat' apply And.intro
     all_goals first
      | exact nn
      | exact qAN h5.at_ 5 0 1 (by simp[crow])
      | skip
     intro b3 hb3
     refine qFF (s:=S.p) (xs:=P) (ys:=[0]) rfl rfl (h5.po.but.new hb3 _) (one hb3) (by simp;omega) fun s3 V7 o3=>⟨s3,rfl,?_⟩
     have h7:=h5.pushP o3
     refine⟨nn,nn,StT.at2 (off:=3) h7.at_ (by simp[crow]) ?_⟩
     have h8:=h7.fields ⟨s1,S.n,S.p⟩
     refine⟨nn,nn,StT.at2 (off:=4) h8.at_ (by simp[crow]) ?_⟩
     have h9:=h8.fields ⟨s1,s2,S.p⟩
     refine⟨nn,nn,StT.at2 (off:=5) h9.at_ (by simp[crow]) ⟨fun h=>absurd h (by decide),fun _=>?_⟩⟩
     have h10:=h9.fields ⟨s1,s2,s3⟩
     refine⟨nn,nn,_,h10.cell 1 1 (by decide),⟨by omega,by omega⟩,nn,nn,StT.at2 (off:=1) h10.at_ (by simp[crow]) ?_⟩
     have h11:=h10.put ((n:Int)+1)
     refine⟨nn,nn,_,h11.cell 2 1 (by decide),qDu.key (k:=b) (qGi Tryz.underlying3) Tryz.underlying132 h11.mp fun om hom=>?_⟩
     have h12:=h11.map (g:=fun x=>if x=b then some ((B.length:Nat):Int) else f x) (hom.congr fun x=>by by_cases e:x=b <;> simp[e])
     refine Tri.mono (c100 h12 (s:=B.length) (q:=q) (by rw[List.getElem?_append_left (List.getElem?_eq_some_iff.1 hq).1];exact hq) (by rw[List.length_append,List.length_singleton];omega) (by rw[List.length_append,List.length_singleton];omega) (by rw[List.length_append,List.length_singleton];omega) (by omega)) ?_
     rintro _ V13 ⟨rfl,h13⟩
     refine⟨rfl,?_⟩
     rw[hR']
     refine⟨rfl,mb,⟨s1,s2,s3⟩,B++[b],_,_,B.length::L,_,h13,?_⟩
     rw[List.take_of_length_le (by omega)]
     exact hI.room hbc hlk (by rw[List.getElem?_append_left (List.getElem?_eq_some_iff.1 hq).1];exact hq)
  ·have hlk:c.length=k:=by have hge:¬(c.length:Int)<(k:Int):=hge;omega
   obtain⟨s,pr,nx,o,k1,k2,k3,k4,k5,k6,k7,k8,k9⟩:=hI.full hbc hk.1 hlk
   obtain⟨p1,p2,p3,p4⟩:=qCy (h.po.rows (fun _=>rfl) (by decide)) k1
   refine⟨nn,nn,_,h.cell 5 1 (by decide),p1,p2,p3,_,p4,Tri.mono (c99 h k5 k6 (by omega) (by omega)) ?_⟩
   rintro _ V2 ⟨rfl,h2⟩
   obtain⟨b1,b2,b3,b4⟩:=qCy (h2.bo.rows (fun _=>rfl) (by decide)) k4
   refine⟨rfl,nn,nn,_,h2.cell 2 1 (by decide),nn,nn,_,h2.cell 3 1 (by decide),b1,b2,b3,_,b4,GenK.delete (k:=o) (qGi Tryz.underlying3) Tryz.underlying132 h2.mp rfl rfl fun om hom=>?_⟩
   have h3:=h2.map (g:=fun x=>if x=o then none else f x) (hom.congr fun x=>by by_cases e:x=o <;> simp[e])
   refine⟨rfl,nn,nn,_,h3.cell 3 1 (by decide),b1,b2,b3,h3.setB k3 fun V4 h4=>⟨fun h=>absurd h (by decide),fun _=>?_⟩⟩
   refine⟨nn,nn,_,h4.cell 1 1 (by decide),⟨by omega,by omega⟩,nn,nn,StT.at2 (off:=1) h4.at_ (by simp[crow]) ?_⟩
   have h5:=h4.put ((n:Int)+1)
   refine⟨nn,nn,_,h5.cell 2 1 (by decide),qDu.key (k:=b) (qGi Tryz.underlying3) Tryz.underlying132 h5.mp fun om2 hom2=>?_⟩
   have h6:=h5.map (g:=fun x=>if x=b then some (s:Int) else if x=o then none else f x) (hom2.congr fun x=>by by_cases e:x=b <;> simp[e])
   obtain⟨q,hq,hql⟩:∃q:Nat,(N.set pr nx)[0]?=some (q:Int)/\q<B.length:=by
    by_cases e:pr=0
    ·subst e
     exact⟨nx,by rw[List.getElem?_set_self (by omega)],k8⟩
    ·obtain⟨q,h1,h2⟩:=hI.head
     exact⟨q,by rw[List.getElem?_set_ne e];exact h1,h2⟩
   refine Tri.mono (c100 h6 hq (by rw[List.length_set];omega) (by rw[List.length_set];omega) (by rw[List.length_set];omega) (by omega)) ?_
   rintro _ V7 ⟨rfl,h7⟩
   refine⟨rfl,?_⟩
   rw[hR']
   exact⟨rfl,mb,S,_,_,_,s::L.take (k-1),_,h7,k9 q hq⟩
end
end Go.Proofs
namespace Go.Proofs
def lastS(a:Int×Nat)(x:Int):Int×Nat:=if a.1<x then (x,1) else if x=a.1 then (a.1,a.2+1) else a
def qCF(l:List Int):Int×Nat:=l.foldl lastS (-1,0)
theorem lastN_snoc(l:List Int)(x:Int):qCF (l++[x])=lastS (qCF l) x:=by unfold qCF;rw[List.foldl_append];rfl
theorem qKi{p:List Int->Prop}(h0:p [])(h:∀l x,p l->p (l++[x]))(l:List Int):p l:=by
 have:∀n,∀l:List Int,l.length=n->p l:=by
  intro n
  induction n with
  | zero=>intro l hl;rw[List.length_eq_zero_iff.1 hl];exact h0
  | succ n ih =>
   intro l hl
   have hne:l≠[]:=by intro e;rw[e]at hl;cases hl
   rw[<- List.dropLast_concat_getLast hne]
   exact h _ _ (ih _ (by rw[List.length_dropLast];omega))
 exact this _ l rfl
theorem qDE(l:List Int):(∀x∈l,x<=(qCF l).1)/\-1<=(qCF l).1/\((qCF l).1=-1∨(qCF l).1∈l)/\((∀x∈l,0<=x)->(qCF l).2=l.count (qCF l).1):=by
 induction l using qKi with
 | h0=>exact⟨by simp,by decide,.inl rfl,fun _=>rfl⟩
 | h l x ih =>
  obtain⟨h1,h2,h3,h4⟩:=ih
  rw[lastN_snoc]
  unfold lastS
  by_cases c1:(qCF l).1<x
  ·rw[if_pos c1]
   refine⟨fun y hy=>?_,by show (-1:Int)<=x;omega,.inr (by simp),fun _=>?_⟩
   ·rcases List.mem_append.1 hy with hy|hy
    ·have:=h1 y hy;show y<=x;omega
    ·rw[List.mem_singleton.1 hy];exact Int.le_refl _
   ·show 1=(l++[x]).count x
    have:x ∉ l:=fun hx=>by have:=h1 x hx;omega
    rw[List.count_append,List.count_eq_zero_of_not_mem this];simp
  ·rw[if_neg c1]
   by_cases c2:x=(qCF l).1
   ·rw[if_pos c2]
    refine⟨fun y hy=>?_,h2,.inr (by show (qCF l).1∈_;rw[c2];simp),fun h0=>?_⟩
    ·rcases List.mem_append.1 hy with hy|hy
     ·exact h1 y hy
     ·rw[List.mem_singleton.1 hy];show x<=_;omega
    ·show (qCF l).2+1=(l++[x]).count (qCF l).1
     rw[List.count_append,h4 fun y hy=>h0 y (by simp[hy]),c2];simp
   ·rw[if_neg c2]
    refine⟨fun y hy=>?_,h2,h3.imp id fun h=>by simp[h],fun h0=>?_⟩
    ·rcases List.mem_append.1 hy with hy|hy
     ·exact h1 y hy
     ·rw[List.mem_singleton.1 hy];omega
    ·rw[List.count_append,h4 fun y hy=>h0 y (by simp[hy])]
     simp[c2]
def qCv(l:List Int)(size:Int):Int:=if (qCF l).1<0∨((qCF l).2:Int)=size then (qCF l).1+1 else (qCF l).1
structure Plc (l:List Int) (size:Int):Prop where
 rng:∀b∈l,0<=b/\b<4096
 cnt:∀b∈l,(l.count b:Int)<=size
theorem Plc.nil{size:Int}:Plc [] size:=⟨by simp,by simp⟩
theorem Plc.snoc{l:List Int}{size b:Int}(h:Plc l size)(h1:0<=b/\b<4096)(h2:((l++[b]).count b:Int)<=size):Plc (l++[b]) size:=by
 refine⟨fun x hx=>?_,fun x hx=>?_⟩
 ·rcases List.mem_append.1 hx with hx|hx
  ·exact h.rng x hx
  ·rw[List.mem_singleton.1 hx];exact h1
 ·by_cases e:x=b
  ·rw[e];exact h2
  ·rcases List.mem_append.1 hx with hx|hx
   ·have:=h.cnt x hx
    rw[List.count_append,List.count_eq_zero_of_not_mem (a:=x) (l:=[b]) (by simpa using e)]
    exact this
   ·exact absurd (List.mem_singleton.1 hx) e
structure Pl0 (l:List Int) (size:Int):Prop where
 lo:∀b∈l,0<=b
 cnt:∀b∈l,(l.count b:Int)<=size
theorem Plc.pl0{l:List Int}{size:Int}(h:Plc l size):Pl0 l size:=⟨fun b hb=>(h.rng b hb).1,h.cnt⟩
theorem furth_eq{l:List Int}{size M:Int}{n:Nat}(h:Pl0 l size)(hM:M∈l)(hmax:∀x∈l,x<=M)(hn:n=l.count M):qCv l size=if (n:Int)<size then M else M+1:=by
 obtain⟨h1,h2,h3,h4⟩:=qDE l
 have h0:=h.lo M hM
 have e:(qCF l).1=M:=by
  have a:=h1 M hM
  rcases h3 with h3|h3
  ·omega
  ·have:=hmax _ h3;omega
 have e2:=h4 h.lo
 rw[e,<- hn]at e2
 have hc:=h.cnt M hM
 rw[<- hn]at hc
 unfold qCv
 rw[e,e2]
 by_cases c:(n:Int)<size
 ·rw[if_neg (by omega),if_pos c]
 ·rw[if_pos (by omega),if_neg c]
theorem qKO(l:List Int)(size:Int):0<=qCv l size:=by
 obtain⟨h1,h2,h3,h4⟩:=qDE l
 unfold qCv
 split <;> omega
theorem Pl0.snoc{l:List Int}{size b:Int}(h:Pl0 l size)(h1:0<=b)(h2:((l++[b]).count b:Int)<=size):Pl0 (l++[b]) size:=by
 refine⟨fun x hx=>?_,fun x hx=>?_⟩
 ·rcases List.mem_append.1 hx with hx|hx
  ·exact h.lo x hx
  ·rw[List.mem_singleton.1 hx];exact h1
 ·by_cases e:x=b
  ·rw[e];exact h2
  ·rcases List.mem_append.1 hx with hx|hx
   ·have:=h.cnt x hx
    rw[List.count_append,List.count_eq_zero_of_not_mem (a:=x) (l:=[b]) (by simpa using e)]
    exact this
   ·exact absurd (List.mem_singleton.1 hx) e
theorem furth_pl0{l:List Int}{size:Int}(h:Pl0 l size)(hs:1<=size):Pl0 (l++[qCv l size]) size:=by
 obtain⟨h1,h2,h3,h4⟩:=qDE l
 have h4:=h4 h.lo
 refine h.snoc (qKO l size) ?_
 rw[List.count_append,show [qCv l size].count (qCv l size)=1 by simp]
 unfold qCv
 by_cases c:(qCF l).1<0∨((qCF l).2:Int)=size
 ·rw[if_pos c,List.count_eq_zero_of_not_mem fun hx=>by have:=h1 _ hx;omega];omega
 ·rw[if_neg c,not_or]at *
  have hm:=h3.resolve_left (by omega)
  have:=h.cnt _ hm
  omega
def Low(l:List Int):Prop:=∀b∈l,b<(l.length:Int)
theorem furth_ok{l:List Int}{size:Int}(h:Plc l size)(hl:Low l)(hs:1<=size)(hn:l.length<4096):Plc (l++[qCv l size]) size/\Low (l++[qCv l size]):=by
 obtain⟨h1,h2,h3,h4⟩:=qDE l
 have h4:=h4 fun x hx=>(h.rng x hx).1
 have hlo:=qKO l size
 have hlen:qCv l size<(l.length:Int)+1:=by
  unfold qCv
  rcases h3 with h3|h3
  ·split <;> omega
  ·have:=hl _ h3
   split <;> omega
 refine⟨h.snoc ⟨hlo,by omega⟩ ?_,fun b hb=>?_⟩
 ·rw[List.count_append,show [qCv l size].count (qCv l size)=1 by simp]
  unfold qCv
  by_cases c:(qCF l).1<0∨((qCF l).2:Int)=size
  ·rw[if_pos c,List.count_eq_zero_of_not_mem fun hx=>by have:=h1 _ hx;omega];omega
  ·rw[if_neg c,not_or]at *
   have hm:=h3.resolve_left (by omega)
   have:=h.cnt _ hm
   omega
 ·rw[List.length_append,List.length_singleton]
  rcases List.mem_append.1 hb with hb|hb
  ·have:=hl b hb;omega
  ·rw[List.mem_singleton.1 hb];omega
end Go.Proofs
namespace Go.Proofs
open Go Go.Sx
attribute [local irreducible] Go.Sx.Tri
theorem CaAt.sub{V0 V:Mem}{p k n:Nat}{c:List Int}(h:CaAt p k c n V0 V):V0.sub V:=by
 obtain⟨mb,S,B,N,P,L,f,h,-⟩:=h
 exact h.sub
section
variable{V0 V:Mem}{p k n:Nat}{c xs:List Int}{l:Sl}{m:Int}
theorem qBC{i:Nat}{x:Int}(h:xs[i]?=some x):xs.take (i+1)=xs.take i++[x]:=by rw[List.take_add_one,h];rfl
theorem touchStep{i:Nat}(h:CaAt p k (tchL k c (xs.take i)) (n+qHK k c (xs.take i)) V0 V)(hk:1<=k/\k<=1000){x:Int}(hx:xs[i]?=some x)(hb:0<=x/\x<=1048576)(hn:n+xs.length<2147483648) :
  Tri Tryz.prog 63 #[pv p,.int .i64 x] V fun e V'=>(∃b:Bool,e=.returned (.tuple #[.bool b,.int .i64 0]))/\CaAt p k (tchL k c (xs.take (i+1))) (n+qHK k c (xs.take (i+1))) V0 V':=by
 have h1:=misL_le k (xs.take i) c
 have hi:=(List.getElem?_eq_some_iff.1 hx).1
 rw[List.length_take]at h1
 refine Tri.mono (c63 h hk hb (by omega)) ?_
 rintro _ V' ⟨rfl,h2⟩
 rw[qBC hx,tchL_snoc,misL_snoc,<- Nat.add_assoc]
 exact⟨⟨_,rfl⟩,h2⟩
theorem c54(h:CaAt p k c n V0 V)(hk:1<=k/\k<=1000)(hl:qAc V0 l 1 (xs.map qAe))(hb:∀x∈xs,0<=x/\x<=1048576)(hn:n+xs.length<2147483648) :
  Tri Tryz.prog 54 #[pv p,l.v] V fun e V'=>e=.returned (.int .i64 (qHK k c xs))/\CaAt p k (tchL k c xs) (n+qHK k c xs) V0 V':=by
 refine x54 ?_
 unfold w54
 refine(c90 h).call ⟨_,rfl,?_⟩
 refine qJg xs.length (fun i V1=>CaAt p k (tchL k c (xs.take i)) (n+qHK k c (xs.take i)) V0 V1) h ?_
 intro i V1 J hi h1 hJ
 have hl1:=hl.sub h1.sub
 refine⟨fun hlt=>?_,fun hge=>?_⟩
 ·obtain⟨x,hxm,hx,-,hil,hp,hz,hrow⟩:=hl1.get hlt
  refine⟨hp,hz,hlt,_,hrow,Tri.mono (touchStep h1 hk hx (hb x hxm) hn) ?_⟩
  rintro _ V2 ⟨⟨b,rfl⟩,h2⟩
  exact⟨_,_,rfl,hl1.succ hlt,hJ hil _ h2⟩
 ·have hd:=(hl1.done hge).2
  rw[List.take_of_length_le hd]at h1
  have h2:=misL_le k xs c
  refine(c90 h1).call ⟨_,rfl,⟨by omega,by omega⟩,?_,h1⟩
  show Ending.returned (.int .i64 (((n+qHK k c xs:Nat):Int)-(n:Int)))=_
  rw[show ((n+qHK k c xs:Nat):Int)-(n:Int)=(qHK k c xs:Int) by omega]
end
theorem g143:IdxP 143 qAe (Value.int .i64) 1:=by
 intro V l xs g first caps hg St Hit hrows h0 hp
 refine x143 (a:=l) (b:=.func (.func g) first.toArray caps.toArray) ?_
 unfold w143
 refine qAI xs.length St h0 ?_
 intro i b V1 J hi hs hJ
 have h:=hrows i V1 hs
 refine⟨fun hlt=>?_,fun hge=>?_⟩
 ·obtain⟨x,hm,hx,hd,hl,hp0,hz,hrow⟩:=h.get hlt
  refine⟨hp0,hz,hlt,_,hrow,g,_,_,rfl,hg,Tri.mono (hp i x V1 hx hs) ?_⟩
  rintro e V2 ⟨b,rfl,h1,h2⟩
  exact⟨b,rfl,fun hb=>.inl ⟨i,rfl,h1 hb⟩,fun hb=>⟨h.succ hlt,hJ hl _ _ (h2 (by simpa using hb))⟩⟩
 ·have e:i=xs.length:=by have:=(h.done hge).2;omega
  subst e
  exact .inr ⟨rfl,hs⟩
theorem g97:ConP 97 qAe (Value.int .i64) 1:=conG g143 x97
theorem c97:ConC 97 qAe (Value.int .i64) 1:=conC g97
section
variable{V:Mem}{xs:List Int}{l:Sl}{m size:Int}
theorem c98{x:Int}:PP 98 [.int .i64 x] V (.bool (decide (x<0)||decide (1048576<x))):=by
 refine x98 ?_
 unfold w98
 refine⟨fun h=>?_,fun h=>?_⟩
 ·rw[decide_eq_true (show x<0 from h)];exact⟨rfl,rfl⟩
 ·rw[decide_eq_false (show ¬x<0 from h)];exact⟨rfl,rfl⟩
theorem c62(hl:qAc V l 1 (xs.map qAe))(hb:∀x∈xs,0<=x/\x<=1048576):PP 62 [l.v,.int .i64 m] V (.int .i64 (if 1<=m/\m<=1000 then (if 65536<xs.length then 4 else 0) else 2)):=by
 refine x62 ?_
 unfold w62
 have hn:=hl.n_eq
 refine(c97 (l:=l) (first:=[]) (caps:=[]) hl Tryz.call98 (fun x=>decide (x<0)||decide (1048576<x)) (fun x _=>c98)).call ⟨_,rfl,fun h=>?_,fun _=>⟨fun h=>?_,fun h=>⟨fun h2=>?_,fun h2=>⟨fun h3=>?_,fun h3=>?_⟩⟩⟩⟩
 ·have h:(xs.any fun x=>decide (x<0)||decide (1048576<x))=true:=h
  obtain⟨x,hx,h⟩:=List.any_eq_true.1 h
  have:=hb x hx
  simp at h;omega
 ·rw[if_neg (by have h:m<1:=h;omega)];exact⟨rfl,rfl⟩
 ·rw[if_neg (by have h2:1000<m:=h2;omega)];exact⟨rfl,rfl⟩
 ·have h:¬m<1:=h
  have h2:¬1000<m:=h2
  have h3:(65536:Int)<(l.n:Int):=h3
  rw[if_pos (by omega),if_pos (by omega)];exact⟨rfl,rfl⟩
 ·have h:¬m<1:=h
  have h2:¬1000<m:=h2
  have h3:¬(65536:Int)<(l.n:Int):=h3
  rw[if_pos (by omega),if_neg (by omega)];exact⟨rfl,rfl⟩
theorem c26(hl:qAc V l 1 (xs.map qAe))(hb:∀x∈xs,0<=x/\x<=1048576)(hm:1<=m/\m<=1000)(hx:xs.length<=65536):Tri Tryz.prog 26 #[l.v,.int .i64 m] V fun e V'=>e=.returned (.tuple #[.int .i64 (misN m.toNat [] xs),.int .i64 0])/\V.sub V':=by
 refine x26 ?_
 unfold w26
 refine(c62 hl hb).call ⟨_,rfl,fun _=>?_,fun h=>absurd ?_ h⟩
 ·refine Tri.mono c53 ?_
  rintro _ V1 (⟨h,-⟩|⟨-,p,rfl,hc⟩)
  ·exact absurd hm h
  refine⟨_,_,rfl,qJg xs.length (fun i V2=>CaAt p m.toNat (tchL m.toNat [] (xs.take i)) (0+qHK m.toNat [] (xs.take i)) V V2) hc ?_⟩
  intro i V2 J hi h1 hJ
  have hl1:=hl.sub h1.sub
  refine⟨fun hlt=>?_,fun hge=>?_⟩
  ·obtain⟨x,hxm,hx,-,hil,hp,hz,hrow⟩:=hl1.get hlt
   refine⟨hp,hz,hlt,_,hrow,Tri.mono (touchStep h1 (by omega) hx (hb x hxm) (by omega)) ?_⟩
   rintro _ V3 ⟨⟨b,rfl⟩,h2⟩
   exact⟨_,_,rfl,hl1.succ hlt,hJ hil _ h2⟩
  ·have hd:=(hl1.done hge).2
   rw[List.take_of_length_le hd]at h1
   have hs:=h1.sub
   obtain⟨mb,S,B,N,P,L,f,h,-⟩:=h1
   refine⟨nn,nn,_,h.cell 1 1 (by decide),?_,hs⟩
   rw[<- misL_nil (by omega),Nat.zero_add]
 ·rw[if_pos hm,if_neg (by omega)]
end
section
variable{V:Mem}{xs:List Int}{l:Sl}{size:Int}
theorem c77(hl:qAc V l 1 (xs.map qAe))(hne:xs≠[]):∃M,M∈xs/\(∀x∈xs,x<=M)/\PP 77 [l.v] V (.int .i64 M):=by
 have hn:=hl.n_eq
 have hpos:=List.length_pos_iff.2 hne
 -- the greatest one
 obtain⟨M,hM,hmax⟩:∃M,M∈xs/\∀x∈xs,x<=M:=by
  clear hl hn hpos
  induction xs using qKi with
  | h0=>exact absurd rfl hne
  | h ys y ih =>
   by_cases e:ys=[]
   ·subst e;exact⟨y,by simp,by simp⟩
   ·obtain⟨M,h1,h2⟩:=ih e
    by_cases c:M<y
    ·refine⟨y,by simp,fun x hx=>?_⟩
     rcases List.mem_append.1 hx with hx|hx
     ·have:=h2 x hx;omega
     ·rw[List.mem_singleton.1 hx];omega
    ·refine⟨M,by simp[h1],fun x hx=>?_⟩
     rcases List.mem_append.1 hx with hx|hx
     ·exact h2 x hx
     ·rw[List.mem_singleton.1 hx];omega
 refine⟨M,hM,hmax,x77 ?_⟩
 unfold w77
 refine⟨fun h=>absurd (show (l.n:Int)<1 from h) (by omega),fun _=>?_⟩
 obtain⟨p1,p2,p3,p4⟩:=qCy hl (List.getElem?_eq_getElem hpos)
 refine⟨p1,p2,p3,_,p4,fun n ys V'=>∃(i:Nat) (m:Int),ys=[.int .i64 m,.int .i64 i]/\1<=i/\i<=xs.length/\n=xs.length-i/\V'=V/\m∈xs/\∀j x,j<i->xs[j]?=some x->x<=m,xs.length-1,⟨1,_,rfl,Nat.le_refl _,hpos,rfl,rfl,List.getElem_mem hpos,fun j x hj hx=>?_⟩,?_⟩
 ·obtain rfl:j=0:=by omega
  rw[List.getElem?_eq_getElem hpos]at hx;cases hx;exact Int.le_refl _
 rintro n V' v2 v3 ⟨i,m,hys,h1,h2,rfl,rfl,hm,hall⟩ J hJ
 simp only[List.cons.injEq,Value.int.injEq,true_and,and_true]at hys
 obtain⟨rfl,rfl⟩:=hys
 refine⟨fun hlt=>?_,fun hge=>?_⟩
 ·obtain⟨y,hym,hy,-,hil,hp,hz,hrow⟩:=hl.get hlt
  refine⟨hp,hz,hlt,_,hrow,GenK.max2 (n1:=v2) (n2:=y) rfl rfl ⟨_,rfl,hl.succ hlt,hJ (xs.length-(i+1)) _ _ (by omega) ⟨i+1,_,rfl,by omega,hil,rfl,rfl,?_,fun j x hj hx=>?_⟩⟩⟩
  ·split <;> assumption
  ·by_cases e:j=i
   ·subst e;rw[hy]at hx;cases hx;split <;> omega
   ·have:=hall j x (by omega) hx;split <;> omega
 ·have hge:¬(i:Int)<(l.n:Int):=hge
  have e:v2=M:=by
   have a:=hmax v2 hm
   obtain⟨j,hj⟩:=List.mem_iff_getElem?.1 hM
   have b:=hall j M (by have:=(List.getElem?_eq_some_iff.1 hj).1;omega) hj
   omega
  subst e
  exact⟨rfl,rfl⟩
theorem qDJ{i:Nat}{x y:Int}(h:xs[i]?=some x):(xs.take (i+1)).count y=(xs.take i).count y+if x=y then 1 else 0:=by
 rw[qBC h,List.count_append]
 congr 1
 by_cases e:x=y
 ·simp[e]
 ·simp[e]
theorem c41(hl:qAc V l 1 (xs.map qAe))(h:Pl0 xs size)(hb:∀b∈xs,b<=1048576):PP 41 [l.v,.int .i64 size] V (.int .i64 (qCv xs size)):=by
 refine x41 ?_
 unfold w41
 have hn:=hl.n_eq
 have hc:=hl.cap
 have hf:=hl.fit
 refine⟨fun h0=>?_,fun h0=>?_⟩
 ·have:xs=[]:=List.length_eq_zero_iff.1 (by have h0:(l.n:Int)=0:=h0;omega)
  subst this
  exact⟨rfl,rfl⟩
 ·have hne:xs≠[]:=fun e=>h0 (by rw[hn,e];rfl)
  obtain⟨M,hM,hmax,hP⟩:=c77 hl hne
  have h1:=h.lo M hM
  have h2:=hb M hM
  refine hP.call ⟨_,rfl,qFi (mk:=.int .i64) (b0:=0) qGk xs.length (fun i b V1=>V1=V/\b=(((xs.take i).count M:Nat):Int)) ⟨rfl,rfl⟩ ?_⟩
  rintro i b V1 J hi ⟨rfl,rfl⟩ hJ
  refine⟨fun hlt=>?_,fun hge=>?_⟩
  ·obtain⟨y,hym,hy,-,hil,hp,hz,hrow⟩:=hl.get hlt
   have e:=qDJ (y:=M) hy
   have hcl:(xs.take i).count M<=i:=Nat.le_trans List.count_le_length (by rw[List.length_take];omega)
   refine⟨hp,hz,hlt,_,hrow,fun hE=>⟨⟨by omega,by omega⟩,hl.succ hlt,hJ hil _ _ ⟨rfl,?_⟩⟩,fun hE=>⟨hl.succ hlt,hJ hil _ _ ⟨rfl,?_⟩⟩⟩
   ·rw[e,if_pos hE];omega
   ·rw[e,if_neg hE];rfl
  ·have hd:=(hl.done hge).2
   rw[List.take_of_length_le hd]
   have e:=furth_eq h hM hmax rfl
   refine⟨fun hlt=>?_,fun hge=>⟨⟨by omega,by omega⟩,?_⟩⟩
   ·rw[e,if_pos (by exact hlt)];exact⟨rfl,rfl⟩
   ·rw[e,if_neg (by exact hge)];exact⟨rfl,rfl⟩
open Classical in
noncomputable def plB(xs:List Int)(size:Int):Bool:=decide (xs.length<=4096/\Plc xs size)
theorem qDW:plB xs size=true↔xs.length<=4096/\Plc xs size:=by unfold plB;simp only[decide_eq_true_eq]
theorem plB_false(h:¬(xs.length<=4096/\Plc xs size)):plB xs size=false:=by unfold plB;simp only[decide_eq_false_iff_not];exact h
theorem plc_next{i:Nat}{x:Int}(h:Plc (xs.take i) size)(hx:xs[i]?=some x)(h1:0<=x/\x<4096)(h2:(((xs.take (i+1)).count x:Nat):Int)<=size):Plc (xs.take (i+1)) size:=by
 rw[qBC hx]at h2 ⊢
 exact h.snoc h1 h2
theorem qGK{i:Nat}{x:Int}(hx:xs[i]?=some x)(h:¬(0<=x/\x<4096)∨size<(((xs.take (i+1)).count x:Nat):Int)):¬Plc xs size:=fun P=>by
 have hm:=List.mem_of_getElem? hx
 have a:=P.rng x hm
 have b:=P.cnt x hm
 have c:(xs.take (i+1)).count x<=xs.count x:=(List.take_sublist _ _).count_le x
 omega
theorem c40{n:Int}(hl:qAc V l 1 (xs.map qAe)):PP 40 [l.v,.int .i64 size,.int .i64 n] V (.bool (decide ((xs.length:Int)=n)&&plB xs size)):=by
 obtain⟨R,hR⟩:∃R:Ending->Mem->Prop,R=fun e V'=>e=.returned (.bool (decide ((xs.length:Int)=n)&&plB xs size))/\V.sub V':=⟨_,rfl⟩
 refine Pur.mk ?_
 rw[<- hR]
 refine x40 ?_
 unfold w40
 have hn:=hl.n_eq
 have no:∀{V'},V.sub V'->¬(xs.length<=4096/\Plc xs size)->R (.returned (.bool false)) V':=fun hs h=>by
  rw[hR,plB_false h,Bool.and_false];exact⟨rfl,hs⟩
 refine⟨fun he=>⟨fun hg=>?_,fun hg=>?_⟩,fun he=>?_⟩
 ·have he:(l.n:Int)=n:=he
  have hg:4096<n:=hg
  exact no (Mem.sub.refl _) (by omega)
 ·have he:(l.n:Int)=n:=he
  have hg:¬4096<n:=hg
  refine GenK.makeMap fun mb hmb=>⟨some mb,rfl,?_⟩
  have s1:=Mem.sub_new hmb (.map #[] 0)
  refine qAI (mk:=.bool) (b0:=false) xs.length (fun i V1=>V.sub V1/\Plc (xs.take i) size/\qFK (Value.int .i64) V1 mb fun x=>if x∈xs.take i then some (.int .i64 (((xs.take i).count x:Nat):Int)) else none) ⟨s1,by rw[List.take_zero];exact Plc.nil,(qFK.made V mb).congr fun x=>by simp⟩ ?_
  rintro i b V1 J hi ⟨hs,hP,hm⟩ hJ
  have hl1:=hl.sub hs
  refine⟨fun hlt=>?_,fun hge=>?_⟩
  ·obtain⟨x,hxm,hx,-,hil,hp,hz,hrow⟩:=hl1.get hlt
   have e:=qDJ (y:=x) hx
   rw[if_pos rfl]at e
   have hcl:(xs.take i).count x<=i:=Nat.le_trans List.count_le_length (by rw[List.length_take];omega)
   have hval:((if x∈xs.take i then some (Value.int .i64 (((xs.take i).count x:Nat):Int)) else none:Option Value).getD (.int .i64 0))=.int .i64 (((xs.take i).count x:Nat):Int):=by
    by_cases c:x∈xs.take i
    ·rw[if_pos c];rfl
    ·rw[if_neg c,List.count_eq_zero_of_not_mem c];rfl
   refine⟨hp,hz,hlt,_,hrow,qBv.key1 (k:=x) (qGi Tryz.underlying3) Tryz.underlying132 qFm hm ⟨_,hval,⟨by omega,by omega⟩,qDu.key (k:=x) (qGi Tryz.underlying3) Tryz.underlying132 hm fun om hom=>?_⟩⟩
   have hs2:V.sub (V1.set mb om):=hs.set hmb om
   have hom2:qFK (Value.int .i64) (V1.set mb om) mb fun y=>if y∈xs.take (i+1) then some (.int .i64 (((xs.take (i+1)).count y:Nat):Int)) else none:=hom.congr fun y=>by
    have ey:=qDJ (y:=y) hx
    by_cases c:y=x
    ·subst c
     rw[if_pos rfl,if_pos (by rw[qBC hx];simp),e];rfl
    ·rw[if_neg fun h:x=y=>c h.symm]at ey
     rw[if_neg c,ey,qBC hx]
     simp[c]
   refine⟨fun h=>no hs2 fun P=>?_,fun h1=>⟨fun h=>no hs2 fun P=>?_,fun h2=>?_⟩⟩
   ·exact qGK hx (.inl (by have h:x<0:=h;omega)) P.2
   ·exact qGK hx (.inl (by have h:4096<=x:=h;omega)) P.2
   ·have h1:¬x<0:=h1
    have h2:¬4096<=x:=h2
    refine qBv.key1 (k:=x) (qGi Tryz.underlying3) Tryz.underlying132 qFm hom2 ⟨(((xs.take (i+1)).count x:Nat):Int),by rw[if_pos (by rw[qBC hx];simp)];rfl,fun h=>no hs2 fun P=>qGK hx (.inr h) P.2,fun h3=>?_⟩
    exact⟨hl1.succ hlt,hJ hil _ _ ⟨hs2,plc_next hP hx (by omega) (Int.not_lt.1 h3),hom2⟩⟩
  ·have hd:=(hl1.done hge).2
   rw[List.take_of_length_le hd]at hP
   rw[hR,qDW.2 ⟨by omega,hP⟩,decide_eq_true (by omega)]
   exact⟨rfl,hs⟩
 ·have he:¬(l.n:Int)=n:=he
  rw[hR,decide_eq_false (by omega)]
  exact⟨rfl,Mem.sub.refl _⟩
end
theorem oneG{α:Type}{t e sz:Nat}{row:α->List Value}(A:AppP t e sz row){V0 V:Mem}{b:Nat}{s:Sl}{xs:List α}{x:α}(o:Sx.Own V0 V e sz s (xs.flatMap row))(hb:V b=none)(hn:xs.length+1<=2147483648){ty:Nat}{y z:Operand}{vals:Operand->Value}(hx:vals y=.slice s.p s.n s.c)(hy:vals z=.slice (sa b) 1 1)(hl:∀x,(row x).length=sz){Q:Value->Mem->Prop}(hQ:∀s' V',Sx.Own V0 V' e sz s' ((xs++[x]).flatMap row)->Q (.slice s'.p s'.n s'.c) V') :
  GenK Tryz.prog (.call { callee:=.builtin .append,args:=#[y,z],argTypes:=#[t,t] }) ty vals (V.set b (.cells (row x).toArray e (0,0))) Q :=
 A (s:=s) (u:=⟨some ⟨b,0,none⟩,1,1⟩) (xs:=xs) (ys:=[x]) hx hy (o.new hb _) (qAc.cells (xs:=[x]) (row:=row) mss (by simp) hl (by simp) (by simp)) (by simpa using hn) hQ
section
variable{V:Mem}{xs:List Int}{l:Sl}{size:Int}
theorem c25(hl:qAc V l 1 (xs.map qAe)):PP 25 [l.v,.int .i64 size] V (.bool (plB xs size)):=by
 obtain⟨R,hR⟩:∃R:Ending->Mem->Prop,R=fun e V'=>e=.returned (.bool (plB xs size))/\V.sub V':=⟨_,rfl⟩
 refine Pur.mk ?_
 rw[<- hR]
 refine x25 ?_
 unfold w25
 have hn:=hl.n_eq
 have no:∀{V'},V.sub V'->¬(xs.length<=4096/\Plc xs size)->R (.returned (.bool false)) V':=fun hs h=>by
  rw[hR,plB_false h];exact⟨rfl,hs⟩
 refine⟨fun hg=>no (Mem.sub.refl _) fun h=>?_,fun hg=>?_⟩
 ·have hg:4096<(l.n:Int):=hg
  omega
 have hg:¬4096<(l.n:Int):=hg
 refine mk31 (n:=4096) rfl rfl (by decide) fun g hgn=>⟨⟨some ⟨g,0,none⟩,4096,4096⟩,rfl,?_⟩
 have C0:=qKu hgn (n:=4096) (by decide)
 obtain⟨V1,hV1⟩:∃V1,V1=V.set g (.cells (madeCells ((Value.int .i64 0).cells) (4096*1)) 3 (0,0)):=⟨_,rfl⟩
 rw[<- hV1]at C0 ⊢
 obtain⟨gs,hgs⟩:∃gs:Sl,gs=⟨some ⟨g,0,none⟩,4096,4096⟩:=⟨_,rfl⟩
 rw[<- hgs]at C0 ⊢
 refine qAI (mk:=.bool) (b0:=false) xs.length (fun i V2=>Plc (xs.take i) size/\∃C:List Int,Sx.Own V V2 3 1 gs (C.flatMap qAe)/\C.length=4096/\∀j:Nat,j<4096->C[j]?=some (((xs.take i).count (j:Int):Nat):Int)) ⟨by rw[List.take_zero];exact Plc.nil,_,C0,List.length_replicate,fun j hj=>by rw[List.getElem?_replicate,if_pos hj,List.take_zero];rfl⟩ ?_
 rintro i b V2 J hi ⟨hP,C,hC,hCl,hCa⟩ hJ
 have hl1:=hl.sub hC.sub
 refine⟨fun hlt=>?_,fun hge=>?_⟩
 ·obtain⟨x,hxm,hx,-,hil,hp,hz,hrow⟩:=hl1.get hlt
  refine⟨hp,hz,hlt,_,hrow,fun h1=>no hC.sub fun P=>qGK hx (.inl (by have h1:x<0:=h1;omega)) P.2,fun h1=>⟨hp,hz,hlt,_,hrow,fun h2=>no hC.sub fun P=>qGK hx (.inl (by have h2:4096<=x:=h2;omega)) P.2,fun h2=>?_⟩⟩
  have h1:¬x<0:=h1
  have h2:¬4096<=x:=h2
  obtain⟨q,rfl⟩:∃q:Nat,x=(q:Int):=⟨x.toNat,by omega⟩
  have hq:q<4096:=by omega
  obtain⟨c1,c2,c3,c4⟩:=qCy (hC.rows (fun _=>rfl) (by decide)) (hCa q hq)
  have e:=qDJ (y:=(q:Int)) hx
  rw[if_pos rfl]at e
  have hcl:(xs.take i).count (q:Int)<=i:=Nat.le_trans List.count_le_length (by rw[List.length_take];omega)
  refine⟨hp,hz,hlt,_,hrow,hp,hz,hlt,_,hrow,c1,c2,c3,_,c4,⟨by omega,by omega⟩,c1,c2,c3,?_⟩
  show StT (qAa gs.p (q*1)) 0 _ _ _
  rw[Nat.mul_one]
  refine Own.store hC (i:=q) (by rw[qEX];omega) fun V3 hC3 _=>?_
  rw[qEW]at hC3
  have hCa3:∀j:Nat,j<4096->(C.set q ((((xs.take i).count (q:Int):Nat):Int)+1))[j]?=some (((xs.take (i+1)).count (j:Int):Nat):Int):=fun j hj=>by
   have ej:=qDJ (y:=(j:Int)) hx
   by_cases c:q=j
   ·subst c
    rw[List.getElem?_set_self (by omega),e];rfl
   ·rw[if_neg (by omega)]at ej
    rw[List.getElem?_set_ne c,hCa j hj,ej];rfl
  obtain⟨-,-,-,hrow3⟩:=qCy (hl.sub hC3.sub) hx
  obtain⟨-,-,-,c5⟩:=qCy (hC3.rows (fun _=>rfl) (by decide)) (hCa3 q hq)
  refine⟨hp,hz,hlt,_,hrow3,c1,c2,c3,_,c5,fun h=>no hC3.sub fun P=>qGK hx (.inr h) P.2,fun h3=>⟨hl1.succ hlt,hJ hil _ _ ⟨plc_next hP hx (by omega) (Int.not_lt.1 h3),_,hC3,by simp[hCl],hCa3⟩⟩⟩
 ·have hd:=(hl1.done hge).2
  rw[List.take_of_length_le hd]at hP
  rw[hR,qDW.2 ⟨by omega,hP⟩]
  exact⟨rfl,hC.sub⟩
end
end Go.Proofs
namespace Go.Proofs
open Go Go.Sx
def qHu(most:Nat)(but l:List Int)(y:Int):List Int:=if l.length<most/\y ∉ l/\y ∉ but then l++[y] else l
def bfsP(d:Ds)(m:Mm)(most:Nat)(but:List Int):Nat->List Int->Nat->List Int
 | 0,l,_=>l
 | f+1,l,i=>match l[i]? with|some x=>bfsP d m most but f ((qAH d m x).foldl (qHu most but) l) (i+1) | none=>l
def qDR(d:Ds)(m:Mm)(l:List Int)(most:Nat)(but:List Int):List Int:=bfsP d m most but (m.nodes.length+1) l 0
def qIj(l:List Int)(n:Nat):List Int:=l++((List.range n).map fun i:Nat=>(i:Int)+1).filter fun x=>decide (x ∉ l)
structure Nds (N:Nat) (l:List Int):Prop where
 nd:l.Nodup
 rng:∀x∈l,1<=x/\x<=(N:Int)
def allN(N:Nat):List Int:=(List.range N).map fun i:Nat=>(i:Int)+1
theorem allN_len(N:Nat):(allN N).length=N:=by unfold allN;rw[List.length_map,List.length_range]
theorem mem_allN{N:Nat}{x:Int}:x∈allN N↔1<=x/\x<=(N:Int):=by
 unfold allN
 rw[List.mem_map]
 constructor
 ·rintro ⟨i,hi,rfl⟩
  have:=List.mem_range.1 hi
  omega
 ·intro h
  exact⟨(x-1).toNat,List.mem_range.2 (by omega),by omega⟩
theorem allN_nd(N:Nat):(allN N).Nodup:=List.Pairwise.map _ (fun a b h=>by omega) List.nodup_range
theorem Nds.nil{N:Nat}:Nds N []:=⟨List.nodup_nil,by simp⟩
theorem Nds.len{N:Nat}{l:List Int}(h:Nds N l):l.length<=N:=by
 have:=nodup_le l (allN N) h.nd fun x hx=>mem_allN.2 (h.rng x hx)
 rwa [allN_len]at this
theorem Nds.snoc{N:Nat}{l:List Int}(h:Nds N l){y:Int}(hy:1<=y/\y<=(N:Int))(hn:y ∉ l):Nds N (l++[y]):=by
 refine⟨?_,fun x hx=>?_⟩
 ·rw[List.nodup_append]
  exact⟨h.nd,by simp,fun a ha b hb e=>hn (by rw[<- List.mem_singleton.1 hb,<- e];exact ha)⟩
 ·rcases List.mem_append.1 hx with hx|hx
  ·exact h.rng x hx
  ·rw[List.mem_singleton.1 hx];exact hy
theorem Nds.add{N most:Nat}{but l:List Int}(h:Nds N l){y:Int}(hy:1<=y/\y<=(N:Int)):Nds N (qHu most but l y):=by
 unfold qHu
 split
 ·rename_i c;exact h.snoc hy c.2.1
 ·exact h
theorem add_sub{most:Nat}{but l:List Int}{y x:Int}(h:x∈l):x∈qHu most but l y:=by
 unfold qHu;split
 ·simp[h]
 ·exact h
structure Spr (N most:Nat) (but l0 l:List Int):Prop where
 nds:Nds N l
 sub:∀x∈l0,x∈l
 new:∀x∈l,x∈l0∨x ∉ but
 cap:l.length<=most∨l.length<=l0.length
theorem Spr.refl{N most:Nat}{but l:List Int}(h:Nds N l):Spr N most but l l:=⟨h,fun _ h=>h,fun _ h=>.inl h,.inr (Nat.le_refl _)⟩
theorem Spr.add{N most:Nat}{but l0 l:List Int}(h:Spr N most but l0 l){y:Int}(hy:1<=y/\y<=(N:Int)):Spr N most but l0 (qHu most but l y):=by
 refine⟨h.nds.add hy,fun x hx=>add_sub (h.sub x hx),fun x hx=>?_,?_⟩
 ·unfold qHu at hx
  split at hx
  ·rename_i c
   rcases List.mem_append.1 hx with hx|hx
   ·exact h.new x hx
   ·rw[List.mem_singleton.1 hx];exact .inr c.2.2
  ·exact h.new x hx
 ·unfold qHu
  split
  ·rename_i c;rw[List.length_append,List.length_singleton];exact .inl c.1
  ·exact h.cap
theorem Spr.fold{N most:Nat}{but l0:List Int}:∀(ys l:List Int),Spr N most but l0 l->(∀y∈ys,1<=y/\y<=(N:Int))->Spr N most but l0 (ys.foldl (qHu most but) l)
 | [],_,h,_=>h
 | y::ys,l,h,hy=>Spr.fold ys _ (h.add (hy y (by simp))) fun z hz=>hy z (by simp[hz])
section
variable{d:Ds}{m:Mm}{most:Nat}{but:List Int}
theorem Spr.bfs(hv:qAs d m=true){l0:List Int}:∀(f:Nat) (l:List Int) (i:Nat),Spr m.nodes.length most but l0 l->Spr m.nodes.length most but l0 (bfsP d m most but f l i)
 | 0,_,_,h=>h
 | f+1,l,i,h=>by
  unfold bfsP
  split
  ·exact Spr.bfs hv f _ _ (h.fold _ _ ((qJr hv).2 _))
  ·exact h
theorem qJW(hv:qAs d m=true){l:List Int}(h:Nds m.nodes.length l):Spr m.nodes.length most but l (qDR d m l most but):=Spr.bfs hv _ _ _ (Spr.refl h)
end
theorem qKo{N:Nat}{l:List Int}(h:Nds N l):Nds N (qIj l N)/\∀x,1<=x->x<=(N:Int)->x∈qIj l N:=by
 have hm:∀x,x∈((List.range N).map fun i:Nat=>(i:Int)+1).filter (fun x=>decide (x ∉ l))↔(1<=x/\x<=(N:Int))/\x ∉ l:=fun x=>by
  rw[List.mem_filter,decide_eq_true_eq];exact and_congr_left fun _=>mem_allN
 refine⟨⟨?_,fun x hx=>?_⟩,fun x h1 h2=>?_⟩
 ·unfold qIj
  rw[List.nodup_append]
  refine⟨h.nd,(allN_nd N).filter _,fun a ha b hb e=>?_⟩
  rw[hm]at hb
  exact hb.2 (e ▸ ha)
 ·rcases List.mem_append.1 hx with hx|hx
  ·exact h.rng x hx
  ·exact((hm x).1 hx).1
 ·unfold qIj
  rw[List.mem_append,hm]
  by_cases c:x∈l
  ·exact .inl c
  ·exact .inr ⟨⟨h1,h2⟩,c⟩
structure qEJ (N:Nat) (O:List Int) (size:Nat) (out:List Int):Prop where
 len:out.length=N
 at_:∀(i:Nat) (n:Int),O[i]?=some n->out[(n-1).toNat]?=some ((i / size:Nat):Int)
theorem qEJ.eq{N size:Nat}{O a b:List Int}(h:qEJ N O size a)(k:qEJ N O size b)(hO:∀x,1<=x->x<=(N:Int)->x∈O):a=b:=by
 refine List.ext_getElem? fun j=>?_
 by_cases hj:j<N
 ·obtain⟨i,hi⟩:=List.mem_iff_getElem?.1 (hO ((j:Int)+1) (by omega) (by omega))
  have h1:=h.at_ i _ hi
  have h2:=k.at_ i _ hi
  rw[show ((j:Int)+1-1).toNat=j by omega]at h1 h2
  rw[h1,h2]
 ·rw[List.getElem?_eq_none (by rw[h.len];omega),List.getElem?_eq_none (by rw[k.len];omega)]
theorem plc_of{N size:Nat}{out:List Int}(hl:out.length=N)(hN:N<=4096)(hb:∀b∈out,0<=b/\b<(N:Int))(hc:∀b∈out,∃S:List Int,S.length<=size/\∀j:Nat,out[j]?=some b->((j:Int)+1)∈S):Plc out size/\Low out:=by
 refine⟨⟨fun b h=>by have:=hb b h;omega,fun b h=>?_⟩,fun b h=>by rw[hl];exact(hb b h).2⟩
 obtain⟨S,hS,hall⟩:=hc b h
 have e:out.count b=(((List.range out.length).filter fun j=>decide (out[j]?=some b)).map fun j:Nat=>(j:Int)+1).length:=by
  rw[List.length_map]
  clear hall hS h hc hb hl
  induction out using qKi with
  | h0=>rfl
  | h l x ih =>
   rw[List.count_append,ih,List.length_append,List.length_singleton,List.range_succ,List.filter_append,List.length_append]
   congr 1
   ·congr 1
    refine List.filter_congr fun j hj=>?_
    rw[List.getElem?_append_left (List.mem_range.1 hj)]
   ·rw[List.filter_cons,List.filter_nil]
    by_cases c:x=b
    ·simp[c]
    ·simp[c]
 have h1:=nodup_le (((List.range out.length).filter fun j=>decide (out[j]?=some b)).map fun j:Nat=>(j:Int)+1) S (List.Pairwise.map _ (fun a b h=>by omega) (List.nodup_range.filter _)) fun x hx=>by
  obtain⟨j,hj,rfl⟩:=List.mem_map.1 hx
  exact hall j (of_decide_eq_true (List.mem_filter.1 hj).2)
 omega
theorem qEJ.plc{N size:Nat}{O out:List Int}(h:qEJ N O size out)(hO:∀x,1<=x->x<=(N:Int)->x∈O)(hn:Nds N O)(hs:1<=size)(hN:N<=4096):Plc out size/\Low out:=by
 have at1:∀(j:Nat) (b:Int),out[j]?=some b->∃i:Nat,O[i]?=some ((j:Int)+1)/\b=((i / size:Nat):Int):=fun j b hb=>by
  have hj:j<N:=by rw[<- h.len];exact(List.getElem?_eq_some_iff.1 hb).1
  obtain⟨i,hi⟩:=List.mem_iff_getElem?.1 (hO ((j:Int)+1) (by omega) (by omega))
  have h1:=h.at_ i _ hi
  rw[show ((j:Int)+1-1).toNat=j by omega,hb]at h1
  exact⟨i,hi,by injection h1⟩
 refine plc_of h.len hN (fun b hb=>?_) fun b hb=>?_
 ·obtain⟨j,hj⟩:=List.mem_iff_getElem?.1 hb
  obtain⟨i,hi,rfl⟩:=at1 j b hj
  have h1:=hn.len
  have h2:=(List.getElem?_eq_some_iff.1 hi).1
  have h3:=Nat.div_le_self i size
  generalize i / size=q at h3 ⊢
  omega
 ·obtain⟨j,hj⟩:=List.mem_iff_getElem?.1 hb
  obtain⟨i,hi,rfl⟩:=at1 j b hj
  refine⟨(O.drop (i / size*size)).take size,by rw[List.length_take];omega,fun j' hj'=>?_⟩
  obtain⟨i',hi',e⟩:=at1 j' _ hj'
  have e:i' / size=i / size:=by omega
  have a1:=Nat.div_add_mod i' size
  have a2:=Nat.mod_lt i' (show 0<size by omega)
  rw[e,Nat.mul_comm]at a1
  refine List.mem_iff_getElem?.2 ⟨i'-i / size*size,?_⟩
  rw[List.getElem?_take,if_pos (by omega),List.getElem?_drop,show i / size*size+(i'-i / size*size)=i' by omega]
  exact hi'
structure CluOf (N:Nat) (size:Nat) (cl:List (List Int)) (out:List Int):Prop where
 len:out.length=N
 at_:∀(i:Nat) (c:List Int),cl[i]?=some c->∀n∈c,out[(n-1).toNat]?=some (i:Int)
theorem CluOf.eq{N size:Nat}{cl:List (List Int)}{a b:List Int}(h:CluOf N size cl a)(k:CluOf N size cl b)(hO:∀x,1<=x->x<=(N:Int)->∃c∈cl,x∈c):a=b:=by
 refine List.ext_getElem? fun j=>?_
 by_cases hj:j<N
 ·obtain⟨c,hc,hx⟩:=hO ((j:Int)+1) (by omega) (by omega)
  obtain⟨i,hi⟩:=List.mem_iff_getElem?.1 hc
  have h1:=h.at_ i _ hi _ hx
  have h2:=k.at_ i _ hi _ hx
  rw[show ((j:Int)+1-1).toNat=j by omega]at h1 h2
  rw[h1,h2]
 ·rw[List.getElem?_eq_none (by rw[h.len];omega),List.getElem?_eq_none (by rw[k.len];omega)]
theorem CluOf.plc{N size:Nat}{cl:List (List Int)}{out:List Int}(h:CluOf N size cl out)(hO:∀x,1<=x->x<=(N:Int)->∃c∈cl,x∈c)(hs:∀c∈cl,c.length<=size)(hc:cl.length<=N)(hN:N<=4096):Plc out size/\Low out:=by
 have at1:∀(j:Nat) (b:Int),out[j]?=some b->∃(i:Nat) (c:List Int),cl[i]?=some c/\((j:Int)+1)∈c/\b=(i:Int):=fun j b hb=>by
  have hj:j<N:=by rw[<- h.len];exact(List.getElem?_eq_some_iff.1 hb).1
  obtain⟨c,hcm,hx⟩:=hO ((j:Int)+1) (by omega) (by omega)
  obtain⟨i,hi⟩:=List.mem_iff_getElem?.1 hcm
  have h1:=h.at_ i _ hi _ hx
  rw[show ((j:Int)+1-1).toNat=j by omega,hb]at h1
  exact⟨i,c,hi,hx,by injection h1⟩
 refine plc_of h.len hN (fun b hb=>?_) fun b hb=>?_
 ·obtain⟨j,hj⟩:=List.mem_iff_getElem?.1 hb
  obtain⟨i,c,hi,-,rfl⟩:=at1 j b hj
  have:=(List.getElem?_eq_some_iff.1 hi).1
  omega
 ·obtain⟨j,hj⟩:=List.mem_iff_getElem?.1 hb
  obtain⟨i,c,hi,-,rfl⟩:=at1 j b hj
  refine⟨c,hs c (List.mem_of_getElem? hi),fun j' hj'=>?_⟩
  obtain⟨i',c',hi',hx,e⟩:=at1 j' _ hj'
  obtain rfl:i'=i:=by omega
  rw[hi]at hi';cases hi'
  exact hx
end Go.Proofs
namespace Go.Proofs
open Go Go.Sx
def cluS(d:Ds)(m:Mm)(size:Nat)(s:List (List Int))(n:Int):List (List Int):=if n∈s.flatten then s else s++[qDR d m [n] size s.flatten]
def cluP(d:Ds)(m:Mm)(size:Nat)(O:List Int):List (List Int):=O.foldl (cluS d m size) []
structure CluI (N size:Nat) (s:List (List Int)):Prop where
 nds:Nds N s.flatten
 all:∀c∈s,c≠[]/\c.length<=size
theorem CluI.len{N size:Nat}{s:List (List Int)}(h:CluI N size s):s.length<=N:=by
 have h1:∀s:List (List Int),(∀c∈s,c≠[])->s.length<=s.flatten.length:=fun s=>by
  induction s with
  | nil=>intro _;exact Nat.le_refl _
  | cons c s ih =>
   intro h
   have h0:=List.length_pos_iff.2 (h c (by simp))
   have:=ih fun x hx=>h x (by simp[hx])
   rw[List.flatten_cons,List.length_append,List.length_cons];omega
 exact Nat.le_trans (h1 s fun c hc=>(h.all c hc).1) h.nds.len
section
variable{d:Ds}{m:Mm}{size:Nat}
theorem clu_new(hv:qAs d m=true)(hs:1<=size){but:List Int}{n:Int}(hn:1<=n/\n<=(m.nodes.length:Int))(hb:n ∉ but):Nds m.nodes.length (qDR d m [n] size but)/\n∈qDR d m [n] size but/\(∀x∈qDR d m [n] size but,x ∉ but)/\(qDR d m [n] size but).length<=size:=by
 have h:=qJW (most:=size) (but:=but) hv (l:=[n]) (Nds.nil.snoc hn (by simp))
 refine⟨h.nds,h.sub n (by simp),fun x hx=>?_,?_⟩
 ·rcases h.new x hx with h|h
  ·rw[List.mem_singleton.1 h];exact hb
  ·exact h
 ·rcases h.cap with h|h
  ·exact h
  ·rw[List.length_singleton]at h;omega
theorem CluI.step(hv:qAs d m=true)(hs:1<=size){s:List (List Int)}(h:CluI m.nodes.length size s){n:Int}(hn:1<=n/\n<=(m.nodes.length:Int)):CluI m.nodes.length size (cluS d m size s n)/\n∈(cluS d m size s n).flatten/\∀x∈s.flatten,x∈(cluS d m size s n).flatten:=by
 unfold cluS
 by_cases c:n∈s.flatten
 ·rw[if_pos c];exact⟨h,c,fun _ h=>h⟩
 ·rw[if_neg c]
  obtain⟨h1,h2,h3,h4⟩:=clu_new hv hs hn c
  rw[List.flatten_append,List.flatten_singleton]
  refine⟨⟨?_,fun x hx=>?_⟩,by simp[h2],fun x hx=>by simp only[List.mem_append];exact .inl hx⟩
  ·rw[List.flatten_append,List.flatten_singleton]
   refine⟨?_,fun x hx=>?_⟩
   ·rw[List.nodup_append]
    exact⟨h.nds.nd,h1.nd,fun a ha b hb e=>h3 b hb (by rw[<- e];exact ha)⟩
   ·rcases List.mem_append.1 hx with hx|hx
    ·exact h.nds.rng x hx
    ·exact h1.rng x hx
  ·rcases List.mem_append.1 hx with hx|hx
   ·exact h.all x hx
   ·rw[List.mem_singleton.1 hx]
    exact⟨fun e=>(by rw[e]at h2;cases h2),h4⟩
theorem clu_ok(hv:qAs d m=true)(hs:1<=size):∀(O:List Int) (s:List (List Int)),CluI m.nodes.length size s->(∀x∈O,1<=x/\x<=(m.nodes.length:Int))->CluI m.nodes.length size (O.foldl (cluS d m size) s)/\∀x,x∈O∨x∈s.flatten->x∈(O.foldl (cluS d m size) s).flatten
 | [],s,h,_=>⟨h,fun x hx=>hx.resolve_left (by simp)⟩
 | n::O,s,h,ho=>by
  obtain⟨h1,h2,h3⟩:=h.step hv hs (ho n (by simp))
  obtain⟨k1,k2⟩:=clu_ok hv hs O _ h1 fun x hx=>ho x (by simp[hx])
  refine⟨k1,fun x hx=>?_⟩
  rcases hx with hx|hx
  ·rcases List.mem_cons.1 hx with rfl|hx
   ·exact k2 _ (.inr h2)
   ·exact k2 _ (.inl hx)
  ·exact k2 _ (.inr (h3 x hx))
def qCU(d:Ds)(m:Mm):List Int:=qIj (qBq d m).order m.nodes.length
def firstP(d:Ds)(m:Mm):List Int:=(tgt d.globals m.globals).foldl (qHu (m.nodes.length+1) []) []
def qIW(d:Ds)(m:Mm):List Int:=qIj (qDR d m (firstP d m) m.nodes.length []) m.nodes.length
def qDB(d:Ds)(m:Mm)(k:Int):List Int:=if k=1 then qIj [] m.nodes.length else if k=2 then qCU d m else qIW d m
theorem qGW(hv:qAs d m=true):Nds m.nodes.length (qCU d m)/\∀x,1<=x->x<=(m.nodes.length:Int)->x∈qCU d m :=
 qKo ⟨(qFW hv).dup,(qFW hv).rng⟩
theorem first_spr(hv:qAs d m=true):Spr m.nodes.length (m.nodes.length+1) [] [] (firstP d m):=(Spr.refl Nds.nil).fold _ _ (qJr hv).1
theorem qKv(hv:qAs d m=true)(k:Int):Nds m.nodes.length (qDB d m k)/\∀x,1<=x->x<=(m.nodes.length:Int)->x∈qDB d m k:=by
 unfold qDB
 split
 ·exact qKo Nds.nil
 ·split
  ·exact qGW hv
  ·exact qKo (qJW hv (first_spr hv).nds).nds
def qAY(d:Ds)(m:Mm)(k:Int)(size:Nat)(out:List Int):Prop:=if k<4 then qEJ m.nodes.length (qDB d m k) size out else CluOf m.nodes.length size (cluP d m size (qCU d m)) out
theorem place_eq(hv:qAs d m=true)(hs:1<=size){k:Int}{a b:List Int}(h:qAY d m k size a)(h':qAY d m k size b):a=b:=by
 unfold qAY at h h'
 split at h
 ·rename_i c
  rw[if_pos c]at h'
  exact h.eq h' (qKv hv k).2
 ·rename_i c
  rw[if_neg c]at h'
  refine h.eq h' fun x h1 h2=>?_
  obtain⟨-,k2⟩:=clu_ok hv hs (qCU d m) [] ⟨Nds.nil,by simp⟩ (qGW hv).1.rng
  have:=k2 x (.inl ((qGW hv).2 x h1 h2))
  obtain⟨c,h1,h2⟩:=List.mem_flatten.1 this
  exact⟨c,h1,h2⟩
theorem place_plc(hv:qAs d m=true)(hs:1<=size){k:Int}{a:List Int}(h:qAY d m k size a):Plc a size/\Low a/\a.length=m.nodes.length:=by
 have hN:=(qAh hv).2.1
 unfold qAY at h
 split at h
 ·obtain⟨h1,h2⟩:=qKv hv k
  exact⟨(h.plc h2 h1 hs hN).1,(h.plc h2 h1 hs hN).2,h.len⟩
 ·obtain⟨k1,k2⟩:=clu_ok hv hs (qCU d m) [] ⟨Nds.nil,by simp⟩ (qGW hv).1.rng
  have:=h.plc (fun x h1 h2=>List.mem_flatten.1 (k2 x (.inl ((qGW hv).2 x h1 h2)))) (fun c hc=>(k1.all c hc).2) k1.len hN
  exact⟨this.1,this.2,h.len⟩
end
end Go.Proofs
namespace Go.Proofs
open Go Go.Sx
attribute [local irreducible] Go.Sx.Tri
section
variable{V:Mem}{d:Ds}{m:Mm}
def TgtP(V:Mem)(xs:List Int):Ending->Mem->Prop:=fun e V'=>∃s:Sl,e=.returned s.v/\Sx.Own V V' 3 1 s (xs.flatMap qAe)
theorem tgt_len(fs:List Fld)(vs:List Int)(i:Nat):(tgtI fs vs i).length<=fs.length:=by
 unfold tgtI
 rw[List.length_map]
 refine Nat.le_trans (List.length_filter_le _ _) ?_
 rw[List.length_take,List.length_zip];omega
theorem ref_pos{fs:List Fld}{vs:List Int}(h:qAg d m fs vs=true){i:Nat}{f:Fld}{v:Int}(hf:fs[i]?=some f)(hv:vs[i]?=some v)(hp:qBw f.ty=false):qCZ (f,v)=decide (0<v):=by
 unfold qCZ
 rw[hp]
 by_cases c:v=0
 ·simp[c]
 ·have:=qJz h hf hv hp c
  simp[c];omega
theorem c133{fl vl:Sl}{fs:List Fld}{vs:List Int}(hl:qAc V fl 2 (fs.map Fld.row))(hv:qAc V vl 1 (vs.map qAe))(h:qAg d m fs vs=true)(hb:fs.length<=4096):Tri Tryz.prog 133 #[fl.v,vl.v] V (TgtP V (tgt fs vs)):=by
 obtain⟨R,hR⟩:∃R,R=TgtP V (tgt fs vs):=⟨_,rfl⟩
 rw[<- hR]
 refine x133 ?_
 unfold w133
 have he:=qGA h
 refine qFi (mk:=fun s:Sl=>.slice s.p s.n s.c) (b0:=⟨none,0,0⟩) qBA fs.length (fun i s V1=>Sx.Own V V1 3 1 s ((tgtI fs vs i).flatMap qAe)) (Own.nil (Mem.sub.refl _) _ _) ?_
 rintro i s V1 J hi o hJ
 have hl1:=hl.sub o.sub
 have hv1:=hv.sub o.sub
 refine⟨fun hlt=>?_,fun hge=>?_⟩
 ·obtain⟨f,-,hf,-,hil,hp,hz,hrow⟩:=hl1.get hlt
  have hx:=List.getElem?_eq_getElem (l:=vs) (i:=i) (by omega)
  obtain⟨x,hxd⟩:∃x,x=vs[i]'(by omega):=⟨_,rfl⟩
  rw[<- hxd]at hx
  obtain⟨p1,p2,p3,p4⟩:=qCy hv1 hx
  have e:=qEn hf hx
  have hsu:=hl1.succ hlt
  have stay:qCZ (f,x)=false->J [.slice s.p s.n s.c,.int .i64 ((i:Int)+1)] V1:=fun hr=>hJ hil s _ (by rw[e,hr];simpa using o)
  have pl:qBw f.ty=true->qCZ (f,x)=false:=fun h=>by unfold qCZ;rw[h];rfl
  refine⟨hp,hz,hlt,_,_,hrow,fun c=>⟨hsu,stay (pl (qHH (.inl c)))⟩,fun c1=>⟨fun c=>⟨hsu,stay (pl (qHH (.inr c)))⟩,fun c2=>⟨p1,p2,p3,_,p4,fun c=>?_,fun c=>⟨hsu,stay ?_⟩⟩⟩⟩
  all_goals
   have hpl:qBw f.ty=false:=by
    have c1:¬f.ty=qAW:=c1
    have c2:¬f.ty=qAu:=c2
    unfold qBw;simp[c1,c2]
  ·have hr:qCZ (f,x)=true:=by rw[ref_pos h hf hx hpl];exact decide_eq_true c
   refine⟨p1,p2,p3,_,p4,fun b hb1=>?_⟩
   have hle:=tgt_len fs vs i
   refine oneG (row:=qAe) qFF (x:=x) (s:=s) o hb1 (by omega) rfl rfl (fun _=>rfl) fun s' V' o'=>?_
   exact⟨s',rfl,hsu,hJ hil s' _ (by rw[e,hr];exact o')⟩
  ·rw[ref_pos h hf hx hpl];exact decide_eq_false c
 ·rw[qKb (hl1.done hge).2]at o
  rw[hR];exact⟨s,rfl,o⟩
theorem node_at(hmv:qAs d m=true)(hd:Ds.Ok V d)(hm:Mm.Ok V m){n:Int}(hn:1<=n/\n<=(m.nodes.length:Int)):∃(x:Nd) (t:Ty) (j:Nat),m.nodes[(n-1).toNat]?=some x/\x.ty=(j:Int)/\d.types[j]?=some t/\qAo d x.ty=t.fields/\qAH d m n=tgt t.fields x.f/\qAg d m t.fields x.f=true /\
  ¬m.ns.p=none/\(n-1)<(m.ns.n:Int)/\V.rowp m.ns.p ((n-1).toNat*2) 2=some x.row/\¬d.ts.p=none/\(j:Int)<(d.ts.n:Int)/\V.rowp d.ts.p (j*2) 2=some t.row/\qAc V t.fs 2 (t.fields.map Fld.row)/\qAc V x.sl 1 (x.f.map qAe):=by
 obtain⟨p1,p2,p3,p4,p5⟩:=qAh hmv
 obtain⟨q,hq⟩:∃q:Nat,n-1=(q:Int):=⟨(n-1).toNat,by omega⟩
 have hql:q<m.nodes.length:=by omega
 have hx:=List.getElem?_eq_getElem hql
 obtain⟨x,hxd⟩:∃x,x=m.nodes[q]:=⟨_,rfl⟩
 rw[<- hxd]at hx
 have hxm:=List.mem_of_getElem? hx
 have hty:=of_decide_eq_true (p3 x hxm)
 obtain⟨j,hj⟩:∃j:Nat,x.ty=(j:Int):=⟨x.ty.toNat,by omega⟩
 have hjl:j<d.types.length:=by omega
 have ht:=List.getElem?_eq_getElem hjl
 obtain⟨t,htd⟩:∃t,t=d.types[j]:=⟨_,rfl⟩
 rw[<- htd]at ht
 have hfo:qAo d x.ty=t.fields:=by rw[hj];exact qAO ht rfl
 have n1:=hm.nodes.n_eq
 have n2:=hd.types.n_eq
 obtain⟨y,-,hy,-,-,a1,a2,a3⟩:=hm.nodes.get (i:=q) (by omega)
 rw[hx]at hy;cases hy
 obtain⟨y,-,hy,-,-,b1,b2,b3⟩:=hd.types.get (i:=j) (by omega)
 rw[ht]at hy;cases hy
 rw[hq,Int.toNat_natCast]
 refine⟨x,t,j,hx,hj,ht,hfo,?_,by rw[<- hfo];exact p5 x hxm,a1,by omega,a3,b1,by omega,b3,(hd.typesOk t (List.mem_of_getElem? ht)).fields,(hm.nodesOk x hxm).rows⟩
 unfold qAH
 rw[hq,Int.toNat_natCast,hx]
 show tgt (qAo d x.ty) x.f=_
 rw[hfo]
theorem c134(hv:qAE d=true)(hmv:qAs d m=true)(hd:Ds.Ok V d)(hm:Mm.Ok V m){n:Int}(hn:1<=n/\n<=(m.nodes.length:Int)):Tri Tryz.prog 134 #[d.v,m.v,.int .i64 n] V (TgtP V (qAH d m n)):=by
 refine x134 ?_
 unfold w134
 obtain⟨x,t,j,h1,h2,h3,h4,h5,h6,a1,a2,a3,b1,b2,b3,k1,k2⟩:=node_at hmv hd hm hn
 have hlen:=(lens_of hv).2 t (List.mem_of_getElem? h3)
 have hNn:=hm.nodes.n_eq
 have hc:=hm.nodes.cap
 have hf:=hm.nodes.fit
 refine⟨⟨by omega,by omega⟩,a1,by omega,a2,_,_,a3,?_⟩
 rw[h2,Int.toNat_natCast]
 refine⟨b1,by omega,b2,qAf b1,_,_,b3,Tri.mono (c133 k1 k2 h6 (by omega)) ?_⟩
 rintro _ V1 ⟨s,rfl,o⟩
 rw[h5]
 exact⟨s,rfl,s,rfl,o⟩
end
def qCW(b:Bool):List Value:=[.bool b]
theorem qDG(l:List Bool):l.flatMap qCW=l.map Value.bool:=by
 induction l with
 | nil=>rfl
 | cons a l ih=>rw[List.flatMap_cons,ih];rfl
theorem qIH(l:List Bool)(i:Nat)(x:Bool):(l.flatMap qCW).set i (.bool x)=(l.set i x).flatMap qCW:=by rw[qDG,qDG,List.map_set]
theorem qII(l:List Bool):(l.flatMap qCW).length=l.length:=by rw[qDG,List.length_map]
theorem bool_at{V:Mem}{s:Sl}{xs:List Bool}(h:qAc V s 1 (xs.map qCW)){i:Nat}{x:Bool}(hx:xs[i]?=some x):¬s.p=none/\(0:Int)<=(i:Int)/\(i:Int)<(s.n:Int)/\V.rowp s.p (i*1) 1=some [.bool x]:=by
 have hn:=h.n_eq
 have hl:=(List.getElem?_eq_some_iff.1 hx).1
 obtain⟨y,-,hy,-,-,h1,h2,h3⟩:=h.get (i:=i) (by omega)
 rw[hx]at hy;cases hy
 exact⟨h1,h2,by omega,h3⟩
theorem rows_same{V V':Mem}{g n c sz:Nat}{rows:List (List Value)}(h:qAc V ⟨some ⟨g,0,none⟩,n,c⟩ sz rows)(e:V' g=V g):qAc V' ⟨some ⟨g,0,none⟩,n,c⟩ sz rows:=⟨h.len,h.cap,h.fit,h.size,fun i r hr=>by
 obtain⟨a,h1,h2⟩:=h.at_ i r hr
 cases h1
 refine⟨_,rfl,?_⟩
 have hb:((⟨g,0,none⟩:Addr).add (i*sz)).block=g:=by unfold Addr.add;split <;> rfl
 unfold Mem.row at h2 ⊢
 rw[hb]at h2 ⊢
 rw[e];exact h2⟩
section
variable{V0 V:Mem}{d:Ds}{m:Mm}{N:Nat}{xs:List Int}{l:Sl}
theorem madeB(n:Nat):(madeCells (Value.bool false).cells n).toList=(List.replicate n false).map Value.bool:=by
 have hc:(Value.bool false).cells=#[Value.bool false]:=by rfl
 rw[hc,List.map_replicate]
 unfold madeCells
 refine List.ext_getElem? fun j=>?_
 grind
theorem qIp{g n:Nat}(hg:V g=none)(hn:n<=2147483648):Sx.Own V (V.set g (.cells (madeCells (Value.bool false).cells (n*1)) 4 (0,0))) 4 1 ⟨some ⟨g,0,none⟩,n,n⟩ ((List.replicate n false).flatMap qCW):=by
 have e:(madeCells (Value.bool false).cells (n*1)).toList=(List.replicate n false).flatMap qCW:=by rw[Nat.mul_one,madeB,qDG]
 refine⟨Mem.sub_new hg _,by rw[qDG];simp,.inr ⟨g,_,rfl,hg,Mem.set_same _ _ _,Nat.le_refl _,by simp only[maxLen];omega,by rw[size_madeCells],?_⟩⟩
 rw[e,List.take_of_length_le (by rw[qDG];simp)]
theorem mk162{ty:Nat}{x y:Operand}{vals:Operand->Value}{n:Nat}(hx:vals x=.int .i64 n)(hy:vals y=.int .i64 n)(hn:n<=2147483648){q:Value->Mem->Prop}(hq:∀g,V g=none->q (.slice (sa g) n n) (V.set g (.cells (madeCells (Value.bool false).cells (n*1)) 4 (0,0)))):GenK Tryz.prog (.makeSlice 162 x y) ty vals V q :=
 GenK.make (z:=.bool false) (i:=ti 4) Tryz.underlying162 (by kernel_rfl) (by kernel_rfl) (by kernel_rfl) (of_decide_eq_true (by kernel_rfl)) hx hy hn hq
def selN(xs:List Int)(j:Nat):List Int:=((List.range j).map fun i:Nat=>(i:Int)+1).filter fun x=>decide (x ∉ xs)
theorem sel_succ(j:Nat):selN xs (j+1)=selN xs j++if ((j:Int)+1)∈xs then [] else [(j:Int)+1]:=by
 unfold selN
 rw[List.range_succ,List.map_append,List.filter_append]
 congr 1
 by_cases c:((j:Int)+1)∈xs
 ·simp[c]
 ·simp[c]
theorem sel_len(j:Nat):(selN xs j).length<=j:=by
 unfold selN
 refine Nat.le_trans (List.length_filter_le _ _) ?_
 simp
theorem rest_sel:qIj xs N=xs++selN xs N:=rfl
theorem push_blk{W V V1:Mem}{s s':Sl}{ys zs:List Value}(o:Sx.Own W V 3 1 s ys)(h:Sx.Own (V.but s) V1 3 1 s' zs){g:Nat}(hg:V g≠none)(hn:¬Blk s g):Sx.Own W V1 3 1 s' zs/\V1 g=V g/\¬Blk s' g:=by
 obtain⟨h1,h2,h3⟩:=qFs o h
 exact⟨h1,h2 g hn hg,fun hb=>(h3 g hb).elim hn hg⟩
theorem c80(ho:Sx.Own V0 V 3 1 l (xs.flatMap qAe))(hx:Nds N xs)(hN:N<=4096)(hns:m.ns.n=N):Tri Tryz.prog 80 #[m.v,l.v] V fun e V'=>∃s:Sl,e=.returned s.v/\Sx.Own V0 V' 3 1 s ((qIj xs N).flatMap qAe):=by
 obtain⟨R,hR⟩:∃R:Ending->Mem->Prop,R=fun e V'=>∃s:Sl,e=.returned s.v/\Sx.Own V0 V' 3 1 s ((qIj xs N).flatMap qAe):=⟨_,rfl⟩
 rw[<- hR]
 refine x80 ?_
 unfold w80
 rw[hns]
 have hxl:=hx.len
 refine⟨⟨by omega,by omega⟩,mk162 (n:=N+1) rfl rfl (by omega) fun g hg=>⟨⟨some ⟨g,0,none⟩,N+1,N+1⟩,rfl,?_⟩⟩
 have C0:=qIp hg (n:=N+1) (by omega)
 obtain⟨V1,hV1⟩:∃V1,V1=V.set g (.cells (madeCells ((Value.bool false).cells) ((N+1)*1)) 4 (0,0)):=⟨_,rfl⟩
 rw[<- hV1]at C0 ⊢
 have hlr:=ho.rows (row:=qAe) (xs:=xs) (fun _=>rfl) (by decide)
 refine qJg xs.length (fun i V2=>∃F:List Bool,Sx.Own V V2 4 1 ⟨some ⟨g,0,none⟩,N+1,N+1⟩ (F.flatMap qCW)/\F.length=N+1/\∀j:Nat,j<N+1->F[j]?=some (decide ((j:Int)∈xs.take i))) ⟨_,C0,List.length_replicate,fun j hj=>by rw[List.getElem?_replicate,if_pos hj,List.take_zero];rfl⟩ ?_
 rintro i V2 J hi ⟨F,hF,hFl,hFa⟩ hJ
 have hl2:=hlr.sub hF.sub
 refine⟨fun hlt=>?_,fun hge=>?_⟩
 ·obtain⟨x,hxm,hxi,-,hil,hp,hz,hrow⟩:=hl2.get hlt
  have hr:=hx.rng x hxm
  obtain⟨q,rfl⟩:∃q:Nat,x=(q:Int):=⟨x.toNat,by omega⟩
  refine⟨hp,hz,hlt,_,hrow,nn,by omega,by show (q:Int)<((N+1:Nat):Int);omega,?_⟩
  show StT (qAa (sa g) (q*1)) 0 _ _ _
  rw[Nat.mul_one]
  refine Own.store (s:=⟨some ⟨g,0,none⟩,N+1,N+1⟩) hF (i:=q) (by rw[qII];omega) fun V3 hF3 _=>?_
  rw[qIH]at hF3
  refine⟨hl2.succ hlt,hJ hil _ ⟨_,hF3,by simp[hFl],fun j hj=>?_⟩⟩
  rw[qBC hxi]
  by_cases c:q=j
  ·subst c
   rw[List.getElem?_set_self (by omega)]
   simp
  ·rw[List.getElem?_set_ne c,hFa j hj]
   congr 1
   have:¬(j:Int)=(q:Int):=by omega
   simp[this]
 ·have hd:=(hl2.done hge).2
  rw[List.take_of_length_le hd]at hFa
  have hFr:=hF.rows (row:=qCW) (xs:=F) (fun _=>rfl) (by decide)
  have hgV:V2 g≠none:=by
   obtain⟨cur,hc⟩:=Own.some (c:=g) hF ⟨by simp,rfl⟩
   rw[hc];simp
  have hbl:¬Blk l g:=fun hb=>by
   obtain⟨cur,hc⟩:=Own.some ho hb
   rw[hg]at hc;cases hc
  refine⟨fun n ys V3=>∃(j:Nat) (s:Sl),ys=[s.v,.int .i64 ((j:Int)+1)]/\j<=N/\n=N-j/\Sx.Own V0 V3 3 1 s ((xs++selN xs j).flatMap qAe)/\V3 g=V2 g/\¬Blk s g,N,⟨0,l,rfl,Nat.zero_le _,rfl,by rw[show selN xs 0=[] from rfl,List.append_nil];exact Own.growS ho hF.sub,rfl,hbl⟩,?_⟩
  rintro n V3 v5 v6 ⟨j,s,hys,hj,rfl,os,hg3,hbs⟩ J hJ
  simp only[List.cons.injEq,Value.int.injEq,true_and,and_true]at hys
  obtain⟨h5,rfl⟩:=hys
  cases qBA _ _ h5
  have hF3:=rows_same hFr hg3
  refine⟨fun hlt=>?_,fun hge=>?_⟩
  ·have hlt:(j:Int)+1<((N+1:Nat):Int):=hlt
   obtain⟨b1,b2,b3,b4⟩:=bool_at hF3 (hFa (j+1) (by omega))
   have e:=sel_succ (xs:=xs) j
   have hsl:=sel_len (xs:=xs) j
   refine⟨b1,by omega,hlt,_,b4,fun c=>⟨⟨by omega,by omega⟩,hJ (N-(j+1)) _ _ (by omega) ⟨j+1,v5,rfl,by omega,rfl,?_,hg3,hbs⟩⟩,fun c b hb=>?_⟩
   ·have c:((j:Int)+1)∈xs:=of_decide_eq_true c
    rw[e,if_pos c,List.append_nil];exact os
   ·have c:¬((j:Int)+1)∈xs:=fun h=>c (decide_eq_true h)
    refine oneG (row:=qAe) qFF (x:=(j:Int)+1) (s:=v5) os.but hb (by rw[List.length_append];omega) rfl rfl (fun _=>rfl) fun s' V' o'=>?_
    obtain⟨k1,k2,k3⟩:=push_blk os o' (g:=g) (by rw[hg3];exact hgV) hbs
    refine⟨s',rfl,⟨by omega,by omega⟩,hJ (N-(j+1)) _ _ (by omega) ⟨j+1,s',rfl,by omega,rfl,?_,k2.trans hg3,k3⟩⟩
    rw[e,if_neg c,<- List.append_assoc];exact k1
  ·have hge:¬(j:Int)+1<((N+1:Nat):Int):=hge
   obtain rfl:j=N:=by omega
   rw[hR,rest_sel]
   exact⟨v5,rfl,os⟩
end
end Go.Proofs
