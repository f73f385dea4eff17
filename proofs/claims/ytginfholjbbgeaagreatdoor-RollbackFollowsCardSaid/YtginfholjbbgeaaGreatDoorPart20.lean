/- Part 20 of a proof of a law of this seat: no statement of the seat is proved here. -/
import Derived.Test.YtginfholjbbgeaaGreatDoorPart19
import Derived.Test.YtginfholjbbgeaaGreatDoorPart16
set_option linter.unusedVariables false
set_option linter.unusedSimpArgs false
namespace Go.Proofs
open Go Go.Sx
attribute [local irreducible] Go.Sx.Tri
section
variable{W V:Mem}{p:Nat}{d d':Ds}{x:Gm}{log:List En}{ends logs:List Nat}{mems:List Gm}{k F:Nat}{lg en l:Sl}{nm:ByteArray}{args:List Int}{at':Bool}{r:Rx Int}
def MadeP(W:Mem)(p:Nat)(d d':Ds)(log:List En)(ends logs:List Nat)(mems:List Gm)(k F:Nat)(r:Rx Int):Ending->Mem->Prop:=fun e V'=>e=.returned (.tuple #[.agg (qFN r).toArray,.int .i64 0])/\∃lg' en' es,SA W V' p d' (r.st.g,r.st.ns) (log.take (qAT ends k)++es) (ends.take k++[qAT ends k+es.length]) ((k+1:Nat):Int) lg' en' /\
 qGp (OkG d) (mems.take (k+1)++[(r.st.g,r.st.ns)]) (logs.take k++[es.length]) (k+1) (log.take (qAT ends k)++es) (ends.take k++[qAT ends k+es.length])/\es.length<=4000*F/\es.length=(r.st.lg.filter fun t=>decide (t.1≠1)).length
theorem MadeP.one:OneP (MadeP W p d d' log ends logs mems k F r):=by
 rintro e V' ⟨rfl,-⟩
 exact⟨_,_,_,_,_,_,rfl⟩
theorem made_of(H:qGp (OkG d) mems logs k log ends)(hx:mems[k]?=some x)(hc:qAE d (gmM x) nm args F=0)(hr:r=qCn d F (qDJ d nm) args (gst x)) :
  qGp (OkG d) (mems.take (k+1)++[(r.st.g,r.st.ns)]) (logs.take k++[(qBP d x (r.st.g,r.st.ns) r.st.lg).length]) (k+1) (log.take (qAT ends k)++qBP d x (r.st.g,r.st.ns) r.st.lg) (ends.take k++[qAT ends k+(qBP d x (r.st.g,r.st.ns) r.st.lg).length])/\(qBP d x (r.st.g,r.st.ns) r.st.lg).length<=4000*F/\(qBP d x (r.st.g,r.st.ns) r.st.lg).length=(r.st.lg.filter fun t=>decide (t.1≠1)).length:=by
 obtain⟨G,hcl⟩:=qEG hc
 have hst:qDM (gmM x)=gst x:=by
  unfold qDM gmM gst
  simp[Function.comp_def]
 have hd:=qKE F G hcl (r:=r) (by rw[hst,hr])
 rw[qDE]at hd
 have hl:=hd.len
 have h1:=ents_le (d:=d) (b:=x) (a:=(r.st.g,r.st.ns)) (l:=r.st.lg) (i:=r.st.lg.length)
 rw[List.take_of_length_le (Nat.le_refl _)]at h1
 exact⟨H.step hx hd.way hd.ok,by omega,ents_len hd.tra _ _⟩
theorem stepM[Tab W](S:SA W V p d' x log ends k lg en)(H:qGp (OkG d) mems logs k log ends)(hx:mems[k]?=some x)(SD:qEF d d')(hd':Ds.Ok W d')(ha:qAd W l 1 (args.map qAo))(hF:F<=4000)(hlog:log.length+4000*F+1<=2147483648)(hends:ends.length+1<=2147483648)(hk:k<2000)(hc:qAE d (gmM x) nm args F=0)(hr:r=qCn d F (qDJ d nm) args (gst x))(hat:¬(at'=true/\qKb r≠0)) :
  Tri Tryz.prog 35 #[pv p,.agg #[.string nm,l.v],.int .i64 F,.bool at'] V (MadeP W p d d' log ends logs mems k F r):=by
 have G:OkG d x:=by
  obtain⟨hl,e⟩:=List.getElem?_eq_some_iff.1 hx
  exact H.ok x (e ▸ List.getElem_mem hl)
 refine Tri.mono (c35 S H G SD hd' ha hF hlog hends) ?_
 rintro e V' (⟨h,-⟩|⟨-,r',hr',⟨h,-⟩|⟨-,h1,h2,-⟩|⟨-,-,rfl,lg',en',S'⟩⟩)
 ·omega
 ·omega
 ·simp_all
 ·obtain rfl:r'=r:=by rw[hr',hr]
  obtain⟨a,b,c⟩:=made_of H hx hc hr'
  exact⟨rfl,lg',en',_,S',a,b,c⟩
end
section
variable{V:Mem}
theorem qJV{gs pr ps bs l1 l2:Sl}:qAs (rbD gs pr ps bs l1 l2) (gmM ([1],[])):=⟨rb_valid,rb_chk,rb_mem1⟩
theorem rb_good3{gs pr ps bs l1 l2:Sl}:qAs (rbD gs pr ps bs l1 l2) (gmM ([3],[])):=⟨rb_valid,rb_chk,rb_mem3⟩
theorem c6[Tab V]:PP 6 [] V (.bool true):=by
 refine Pur.mk (x6 ?_)
 unfold w6
 refine Tri.mono c24 ?_
 rintro _ V1 ⟨gs,pr,ps,bs,l1,l2,rfl,s1,hd⟩
 refine⟨_,_,_,_,_,_,_,_,rfl,fun b1 h1=>?_⟩
 obtain⟨V2,e2⟩:∃V2,V2=V1.set b1 (.cells #[.int .i64 1] 3 (0,0)):=⟨_,rfl⟩
 have s2:V1.sub V2:=by grind [Mem.sub_new]
 have c1:V2 b1=some (.cells #[.int .i64 1] 3 (0,0)):=by rw[e2];exact Mem.set_same _ _ _
 erw [<- e2]
 have hm:Mm.Ok V2 ⟨qJC b1 1,[1],qAt,[]⟩:=⟨qAd.cells (row:=qAo) (xs:=[1]) c1 rfl (fun _=>rfl) rfl (by simp),fun x hx=>by
  grind [inI],qAd.nil,by simp⟩
 haveI:Tab V2:=Tab.sub (V:=V) inferInstance (s1.trans s2)
 have G:qAs (rbD gs pr ps bs l1 l2) ⟨qJC b1 1,[1],qAt,[]⟩:=OkG.to (y:=([1],[])) qJV rfl
 refine Tri.mono (c8 (hd.sub s2) hm) ?_
 rintro _ V3 (⟨hG,-⟩|⟨-,p,d',W,rfl,sW,hd',SD,S⟩)
 ·grind
 have S:SA W V3 p d' ([1],[]) [] [] ((0:Nat):Int) qAt qAt:=S
 have s13:=(s1.trans s2).trans (sW.trans S.sub)
 refine⟨_,_,rfl,fun _=>⟨fun h=>absurd h nn,fun _ b2 h2=>?_⟩,fun h=>absurd rfl h⟩
 have s4:=Mem.sub_new h2 (.cells #[.int .i64 2] 3 (0,0))
 obtain⟨W4,w4,-,S4,n4⟩:=S.after s4
 haveI:Tab W4:=Tab.sub (V:=V2) inferInstance (sW.trans w4)
 have H0:qGp (OkG (rbD gs pr ps bs l1 l2)) [([1],[])] [] 0 [] []:=qGp.start qJV
 have r1:=rb_run1 (gs:=gs) (pr:=pr) (ps:=ps) (bs:=bs) (l1:=l1) (l2:=l2)
 obtain⟨ra,hra⟩:∃r,r=qCn (rbD gs pr ps bs l1 l2) 5 0 [2] (gst ([1],[])):=⟨_,rfl⟩
 rw[<- hra]at r1
 simp only[Prod.mk.injEq]at r1
 obtain⟨o1,g1,n1⟩:=r1
 refine Tri.mono (c10 MadeP.one (stepM (F:=5) (nm:=adds) (args:=[2]) (l:=qJC b2 1) (r:=ra) S4 H0 rfl SD (hd'.sub w4) (qAd.cells (row:=qAo) (xs:=[2]) (n4 _ _ h2 mss) rfl (fun _=>rfl) rfl (by simp)) (by decide) (by decide) (by decide) (by decide) (by grind [start_ok,qJV,rb_cll1]) (by rw[rb_idx];exact hra) (fun h=>by cases h.1))) ?_
 rintro _ V5 ⟨rfl,lg1,en1,es1,S5,H5,le1,-⟩
 rw[g1,n1]at S5 H5
 have s45:=Mem.sub.trans (sW.trans w4) S5.sub
 refine⟨_,_,_,_,_,_,rfl,fun b3 h3=>?_⟩
 have s6:=Mem.sub_new h3 (.cells #[.int .i64 3] 3 (0,0))
 obtain⟨W6,w6,-,S6,n6⟩:=S5.after s6
 haveI:Tab W6:=Tab.sub (V:=W4) inferInstance w6
 have r3:=rb_run3 (gs:=gs) (pr:=pr) (ps:=ps) (bs:=bs) (l1:=l1) (l2:=l2)
 obtain⟨rb,hrb⟩:∃r,r=qCn (rbD gs pr ps bs l1 l2) 5 0 [3] (gst ([3],[])):=⟨_,rfl⟩
 rw[<- hrb]at r3
 simp only[Prod.mk.injEq]at r3
 obtain⟨o3,g3,n3⟩:=r3
 refine Tri.mono (c10 MadeP.one (stepM (F:=5) (nm:=adds) (args:=[3]) (l:=qJC b3 1) (r:=rb) (x:=([3],[])) S6 H5 rfl SD (hd'.sub (w4.trans w6)) (qAd.cells (row:=qAo) (xs:=[3]) (n6 _ _ h3 mss) rfl (fun _=>rfl) rfl (by simp)) (by decide) (by grind) (by simp) (by decide) (by grind [start_ok,rb_good3,rb_cll3]) (by rw[rb_idx];exact hrb) (fun h=>by cases h.1))) ?_
 rintro _ V7 ⟨rfl,lg2,en2,es2,S7,H7,le2,-⟩
 rw[g3,n3]at S7 H7
 refine⟨_,_,_,_,_,_,rfl,Tri.mono (c13 (k:=2) S7 H7 rfl) ?_⟩
 rintro _ V8 (⟨hno,-⟩|⟨n,hn,-,rfl,x8,hx8,S8⟩)
 ·omega
 obtain rfl:n=1:=by omega
 have hx8:some (([3],[]):Gm)=some x8:=hx8
 cases hx8
 refine⟨_,rfl,Tri.mono (c21 S8 (hd'.sub (w4.trans w6)) (show OkG d' ([3],[]) from qAs.same (m:=gmM ([3],[])) rb_good3 SD)) ?_⟩
 rintro _ V9 ⟨s9,m,rfl,hm9,hp9⟩
 have hg9:m.globals=[3]:=(Prod.mk.inj hp9).1
 have hn9:=hm9.globals.n_eq
 rw[hg9]at hn9
 have hn9:m.gs.n=1:=hn9
 obtain⟨y,-,hy,-,-,hp,hz,hrow⟩:=hm9.globals.get (i:=0) (by omega)
 rw[hg9]at hy
 cases hy
 obtain⟨q0,gs8,ns8,nd8,T8⟩:=S8
 have S9:SA W6 V9 p d' ([3],[]) _ _ ((1:Nat):Int) lg2 en2:=⟨q0,gs8,ns8,nd8,T8.grow s9⟩
 refine⟨m.gs,m.ns,rfl,fun _=>⟨fun _=>⟨fun _=>⟨fun _=>⟨hp,by decide,by omega,3,hrow,fun _=>(c18 (k:=1) S9).call ⟨_,rfl,fun _=>(c19 (k:=1) S9).call ⟨_,rfl,?_⟩,fun h=>absurd rfl h⟩,fun h=>absurd rfl h⟩,fun h=>absurd (by omega) h⟩,fun h=>absurd rfl h⟩,fun h=>absurd rfl h⟩,fun h=>absurd rfl h⟩
 refine⟨?_,((s1.trans s2).trans ((sW.trans w4).trans w6)).trans S9.sub⟩
 simp[qAT]
end
structure Stp where
 kind:Int
 nm:ByteArray
 l:Sl
 fuel:Int
 n:Int
def Stp.row(x:Stp):List Value:=[.int .i64 x.kind,.string x.nm,x.l.v,.int .i64 x.fuel,.int .i64 x.n]
def qIu(F:Int):Prop:=F<=600∨1048576<F
section
variable{V:Mem}{d:Ds}{m:Mm}
theorem smallOne{x:Stp}:Tri Tryz.prog 28 #[.agg x.row.toArray] V fun e V'=>V=V'/\∃b:Bool,e=.returned (.bool b)/\(b=false->qIu x.fuel):=by
 refine x28 ?_
 unfold w28
 refine⟨fun _=>⟨rfl,true,rfl,fun h=>by cases h⟩,fun _=>⟨fun _=>⟨rfl,true,rfl,fun h=>by cases h⟩,fun _=>⟨fun h1=>⟨rfl,_,rfl,fun h=>.inr ?_⟩,fun h1=>⟨rfl,false,rfl,fun _=>.inl ?_⟩⟩⟩⟩
 ·simp_all
 omega
theorem smallIx{s:Sl}{cs:List Stp}(h:qAd V s 5 (cs.map Stp.row)):Tri Tryz.prog 47 #[.slice s.p s.n s.c,.func (.func 28) #[] #[]] V fun e V'=>V=V'/\∃r:Int,e=.returned (.int .i64 r)/\(¬0<=r->∀x∈cs,qIu x.fuel):=by
 refine x47 (a:=s) (b:=.func (.func 28) #[] #[]) ?_
 unfold w47
 refine qAJ (mk:=.int .i64) (b0:=0) cs.length (fun i V1=>V=V1/\∀j x,j<i->cs[j]?=some x->qIu x.fuel) ⟨rfl,fun j x h=>by omega⟩ ?_
 rintro i b V1 J hi ⟨rfl,ha⟩ hJ
 refine⟨fun hlt=>?_,fun hge=>?_⟩
 ·obtain⟨x,hxm,hx,-,hil,hp,hz,hrow⟩:=h.get hlt
  refine⟨hp,hz,hlt,_,_,_,_,_,hrow,28,#[],#[],rfl,Tryz.call28,Tri.mono (smallOne (x:=x)) ?_⟩
  rintro _ _ ⟨rfl,b,rfl,hb⟩
  refine⟨b,rfl,fun _=>⟨rfl,_,rfl,fun hn=>absurd (by omega) hn⟩,fun hf=>⟨h.succ hlt,hJ hil _ _ ⟨rfl,fun j y hj hy=>?_⟩⟩⟩
  grind
 ·have hd:=(h.done hge).2
  refine⟨rfl,_,rfl,fun _ x hx=>?_⟩
  grind [List.mem_iff_getElem?,List.getElem?_eq_some_iff]
theorem smallS(hd:Ds.Ok V d)(hm:Mm.Ok V m){s:Sl}{cs:List Stp}(h:qAd V s 5 (cs.map Stp.row)):Tri Tryz.prog 7 #[d.v,m.v,.slice s.p s.n s.c] V fun e V'=>V=V'/\∃b:Bool,e=.returned (.bool b)/\(b=true->cs.length<=14/\∀x∈cs,qIu x.fuel):=by
 have hn:=h.n_eq
 refine x7 ?_
 unfold w7
 refine Tri.mono (greatC hd) ?_
 rintro _ _ ⟨rfl,b,rfl⟩
 refine⟨_,rfl,fun _=>⟨rfl,false,rfl,fun h=>by cases h⟩,fun _=>Tri.mono (manyC hm) ?_⟩
 rintro _ _ ⟨rfl,b,rfl⟩
 refine⟨_,rfl,fun _=>⟨rfl,false,rfl,fun h=>by cases h⟩,fun _=>⟨fun h1=>?_,fun _=>⟨rfl,false,rfl,fun h=>by cases h⟩⟩⟩
 have h1:(s.n:Int)<=14:=h1
 refine Tri.mono (x27 (a:=s) (b:=.func (.func 28) #[] #[]) (R:=fun e V'=>V=V'/\∃r:Int,e=.returned (.bool (decide (0<=r)))/\(¬0<=r->∀x∈cs,qIu x.fuel)) ?_) ?_
 ·unfold w27
  refine Tri.mono (smallIx h) ?_
  grind
 grind
end
theorem tri_frame{P:Program}{f:FuncId}{args:Array Value}{U:Mem}{M:Nat->Prop}{R:Ending->Mem->Prop}(hM:∀b,M b->U b≠none)(h:Tri P f args (Mem.minus U M) R) :
  Tri P f args U fun e V2=>∃V',R e V'/\V'.sub V2/\(∀b o,M b->U b=some o->V2 b=some o)/\∀b,M b->V' b=none:=by
 unfold Tri at h ⊢
 intro w hw
 have hlt:∀b,M b->b<w.heap.size:=fun b hb=>by
  cases hu:U b with
  | none=>simp_all
  | some o=>exact(Array.getElem?_eq_some_iff.1 (hw b o hu)).1
 intro cs
 obtain⟨e,w',fr,⟨V',hR,hF⟩,rest⟩:=h w (fun b o hb=>hw b o (qBH b o hb)) cs
 have hno:∀b,M b->V' b=none:=fun b hb=>by
  cases hv:V' b with
  | none=>rfl
  | some o =>
   rcases hF.dom b (by rw[hv];simp) with h1|h1
   ·exact absurd (qBT hb) h1
   grind
 classical
 refine⟨e,w',fr,⟨fun b=>if M b then U b else V' b,⟨V',hR,fun b o hb=>?_,fun b o hm hb=>?_,hno⟩,⟨hF.size,fun b o hb=>?_,fun b hb hu=>?_,fun b hb=>?_,hF.os,hF.out⟩⟩,rest⟩
 ·grind
 ·simp_all
 ·have hb:(if M b then U b else V' b)=some o:=hb
  by_cases hm:M b
  ·rw[if_pos hm]at hb
   rw[hF.old b (hlt b hm) (qBT hm)]
   exact hw b o hb
  ·rw[if_neg hm]at hb
   exact hF.le b o hb
 ·refine hF.old b hb ?_
  grind [qBT,qAV]
 ·have hb:(if M b then U b else V' b)≠none:=hb
  by_cases hm:M b
  ·simp_all
  ·rw[if_neg hm]at hb
   rcases hF.dom b hb with h1|h1
   ·grind [qAV]
   ·exact .inr h1
section
variable{W V V':Mem}{p:Nat}{d:Ds}{x:Gm}{log:List En}{ends:List Nat}{k:Int}{lg en:Sl}
def SF(M:Nat->Prop)(V:Mem)(p:Nat)(d:Ds)(x:Gm)(log:List En)(ends:List Nat)(k:Int)(lg en:Sl):Prop:=(∀b,M b->V b≠none)/\∀V',(∀b o,M b->V b=some o->V' b=some o)->SA (Mem.minus V' M) V' p d x log ends k lg en
theorem SA.frame(S:SA W V p d x log ends k lg en):∃M,(∀b,M b->W b=none)/\SF M V p d x log ends k lg en:=by
 obtain⟨p0,gs,ns,nd,S⟩:=S
 have own:∀{e sz:Nat} {s:Sl} {vs:List Value},Sx.Own W V e sz s vs->∀c,Blk s c->V c≠none/\W c=none:=fun {e sz s vs} o c hc=>⟨by grind [Own.some],Own.none0 o hc⟩
 obtain⟨M,hM⟩:∃M:Nat->Prop,M=fun c=>c=p∨Blk gs c∨Blk ns c∨Blk lg c∨Blk en c∨∃n∈nd,Blk n.sl c:=⟨_,rfl⟩
 have hin:∀c,M c->V c≠none/\W c=none:=fun c hc=>by
  rw[hM]at hc
  rcases hc with rfl|h|h|h|h|⟨n,hn,h⟩
  ·exact⟨by rw[S.at_];simp,p0⟩
  ·exact own S.lay.glob c h
  ·exact own S.lay.nodes c h
  ·exact own S.lgo c h
  ·exact own S.eno c h
  ·exact own (S.lay.fld n hn) c h
 refine⟨M,fun b hb=>(hin b hb).2,fun b hb=>(hin b hb).1,fun V' hk=>?_⟩
 have go:∀{e sz:Nat} {s:Sl} {vs:List Value},(∀c,Blk s c->M c)->Sx.Own W V e sz s vs->Sx.Own (Mem.minus V' M) V' e sz s vs:=fun {e sz s vs} hm h=>⟨qBH,h.len,by
  rcases h.cases0 with h1|⟨hc,g,cur,h1,h2,h3,h4⟩
  ·exact .inl h1
  ·exact .inr ⟨g,cur,h1,qBT (hm g ⟨hc,h1⟩),hk _ _ (hm g ⟨hc,h1⟩) h3,h4⟩⟩
 have hp:M p:=by simp_all
 exact⟨qBT hp,gs,ns,nd,hk _ _ hp S.at_,⟨go (fun c h=>by simp_all) S.lay.glob,go (fun c h=>by simp_all) S.lay.nodes,Own.nil qBH _ _,fun n hn=>go (fun c h=>by grind) (S.lay.fld n hn),S.lay.eq,S.lay.gf,S.lay.ff⟩,go (fun c h=>by simp_all) S.lgo,go (fun c h=>by simp_all) S.eno,S.eg,S.ef⟩
theorem SF.keep{M:Nat->Prop}(h:SF M V p d x log ends k lg en)(hk:∀b o,M b->V b=some o->V' b=some o):SF M V' p d x log ends k lg en:=⟨fun b hb=>by
 cases hv:V b with
 | none=>exact absurd hv (h.1 b hb)
 | some o=>simp_all,fun V2 h2=>h.2 V2 fun b o hb hv=>h2 b o hb (hk b o hb hv)⟩
end
structure Sto where
 p:Nat
 d:Ds
 x:Gm
 log:List En
 ends:List Nat
 k:Int
 lg:Sl
 en:Sl
abbrev SAs(W V:Mem)(s:Sto):Prop:=SA W V s.p s.d s.x s.log s.ends s.k s.lg s.en
def One(D V:Mem)(B:Nat->Prop)(s:Sto):Prop:=∃M:Nat->Prop,SF M V s.p s.d s.x s.log s.ends s.k s.lg s.en/\(∀b,B b->V b≠none/\¬M b)/\D.sub V/\∀b,D b≠none->¬M b/\¬B b
section
variable{D D' V V' W:Mem}{B:Nat->Prop}{s:Sto}
theorem One.sub(h:One D V B s):D.sub V:=by obtain⟨M,-,-,h,-⟩:=h;exact h
theorem One.new(S:SAs W V s)(hD:D.sub W):One D V (fun _=>False) s:=by
 obtain⟨M,h1,h2⟩:=SA.frame S
 refine⟨M,h2,fun _ h=>h.elim,hD.trans S.sub,fun b hb=>⟨fun hm=>?_,id⟩⟩
 cases h':D b with
 | none=>exact hb h'
 | some o =>
  have:=hD _ _ h'
  simp_all
theorem One.sto(h:One D V B s):∃W,D.sub W/\W.sub V/\SAs W V s/\∀{V':Mem} {s':Sto},SAs W V' s'->One D V' B s'/\∀b,B b->V' b=V b:=by
 obtain⟨M,f,hb,hd,hn⟩:=h
 have hD:D.sub (Mem.minus V M):=fun b o hb=>by
  rw[qAV (hn b (by rw[hb];simp)).1];exact hd _ _ hb
 refine⟨Mem.minus V M,hD,qBH,f.2 V fun _ _ _ h=>h,fun {V' s'} S'=>?_⟩
 obtain⟨M',h1,h2⟩:=SA.frame S'
 have hB:∀b,B b->Mem.minus V M b=V b:=fun b hB=>qAV (hb b hB).2
 have hV:∀b,B b->V' b=V b:=fun b hB'=>by
  cases hv:V b with
  | none=>simp_all
  | some o=>exact S'.sub _ _ (by grind)
 refine⟨⟨M',h2,fun b hB'=>⟨by simp_all,fun hm=>?_⟩,hD.trans S'.sub,fun b hb'=>⟨fun hm=>?_,(hn b hb').2⟩⟩,hV⟩
 ·grind
 ·have h0:=h1 b hm
  cases hd:D b with
  | none=>exact hb' hd
  | some o=>rw[hD _ _ hd]at h0;cases h0
theorem One.run{P:Program}{f:FuncId}{args:Array Value}{R:Ending->Mem->Prop}(h:One D V B s)(H:∀U,D.sub U->Tri P f args U fun e U'=>U.sub U'/\R e U') :
  Tri P f args V fun e V'=>∃D',D.sub D'/\R e D'/\One D' V' B s/\∀b,B b->V' b=V b:=by
 obtain⟨M,f,hb,hd,hn⟩:=h
 obtain⟨N,hN⟩:∃N:Nat->Prop,N=fun b=>M b∨B b:=⟨_,rfl⟩
 have hD:D.sub (Mem.minus V N):=fun b o hb=>by
  have:=hn b (by rw[hb];simp)
  rw[qAV (by simp_all)];exact hd _ _ hb
 have hNV:∀b,N b->V b≠none:=fun b h=>by
  rw[hN]at h
  exact h.elim (f.1 b) fun h=>(hb b h).1
 refine Tri.mono (tri_frame hNV (H _ hD)) ?_
 rintro e V2 ⟨V3,⟨h1,h2⟩,k1,k2,k3⟩
 have hV:∀b,N b->V2 b=V b:=fun b h=>by
  cases hv:V b with
  | none=>simp_all
  | some o=>grind
 have nM:∀b,M b->N b:=fun b h=>by simp_all
 have nB:∀b,B b->N b:=fun b h=>by simp_all
 refine⟨V3,hD.trans h1,h2,⟨M,f.keep fun b o hm hv=>k2 b o (nM b hm) hv,fun b hB=>⟨by simp_all,(hb b hB).2⟩,k1,fun b hv=>⟨fun hm=>hv (k3 b (nM b hm)),fun hB=>hv (k3 b (nB b hB))⟩⟩,fun b hB=>hV b (nB b hB)⟩
end
structure Rf where
 ms:Sl
 ls:Sl
 mms:List Mm
 logs:List Nat
 k:Nat
def Rf.v(d:Ds)(r:Rf):Value:=.agg #[Go.Sx.vS d.name,d.ts.v,d.gs.v,d.ps.v,d.ms.v,d.is.v,d.qs.v,d.bs.v,r.ms.v,r.ls.v,.int .i64 r.k]
structure RfOk (V:Mem) (mems:List Gm) (r:Rf):Prop where
 rows:qAd V r.ms 2 (r.mms.map Mm.row)
 ok:∀m∈r.mms,Mm.Ok V m
 lrows:qAd V r.ls 1 (r.logs.map qEc)
 pl:r.mms.map Mm.plain=mems
theorem RfOk.sub{V V':Mem}{mems:List Gm}{r:Rf}(h:RfOk V mems r)(hs:V.sub V'):RfOk V' mems r:=⟨h.rows.sub hs,fun m hm=>(h.ok m hm).sub hs,h.lrows.sub hs,h.pl⟩
theorem qIj(m:Mm):m.row.length=2:=rfl
theorem app42:AppP 42 34 2 Mm.row:=appG Tryz.underlying42 (by kernel_rfl) (by kernel_rfl) (by kernel_rfl) (by kernel_rfl) (by kernel_rfl) (by decide) qIj fun x u hu=>by simp only[Mm.row,List.mem_cons,List.not_mem_nil,or_false]at hu;rcases hu with rfl|rfl <;> rfl
section
variable{V:Mem}{d:Ds}{m:Mm}{mems:List Gm}{r:Rf}{x:Gm}{k F:Nat}{nm:ByteArray}{args:List Int}{l:Sl}{atm:Bool}
theorem RfOk.at_(h:RfOk V mems r){i:Nat}(hx:mems[i]?=some x):∃m,r.mms[i]?=some m/\Mm.Ok V m/\m.plain=x/\¬r.ms.p=none/\(i:Int)<(r.ms.n:Int)/\V.rowp r.ms.p ((i:Int).toNat*2) 2=some m.row:=by
 rw[<- h.pl,List.getElem?_map]at hx
 cases hm:r.mms[i]? with
 | none=>simp_all
 | some m =>
  rw[hm]at hx
  have hx:some m.plain=some x:=hx
  cases hx
  have hn:=h.rows.n_eq
  have hl:=(List.getElem?_eq_some_iff.1 hm).1
  obtain⟨y,hym,hy,-,-,hp,hz,hrow⟩:=h.rows.get (i:=i) (by omega)
  rw[hm]at hy;cases hy
  exact⟨m,rfl,h.ok m hym,rfl,hp,by omega,hrow⟩
theorem c37(h:RfOk V mems r)(hx:mems[r.k]?=some x):∃m,Mm.Ok V m/\m.plain=x/\PP 37 [r.v d] V m.v:=by
 obtain⟨m,-,ho,hp,h1,h2,h3⟩:=h.at_ hx
 refine⟨m,ho,hp,x37 ?_⟩
 unfold w37
 exact⟨h1,by omega,h2,m.gs,m.ns,h3,rfl,rfl⟩
theorem c14{j:Int}:PP 14 [r.v d,.int .i64 j] V (if 0<=j/\j<=(r.k:Int) then .tuple #[({ r with k:=j.toNat }:Rf).v d,.int .i64 0] else .tuple #[r.v d,.int .i64 2]):=by
 refine x14 ?_
 unfold w14
 refine⟨fun h=>?_,fun h=>⟨fun h2=>?_,fun h2=>?_⟩⟩
 ·rw[if_neg (by omega)];exact⟨rfl,rfl⟩
 ·rw[if_neg (by omega)];exact⟨rfl,rfl⟩
 ·have h:¬j<0:=h
  have h2:¬(r.k:Int)<j:=h2
  rw[if_pos (by omega)]
  have e:((j.toNat:Nat):Int)=j:=by omega
  refine⟨?_,rfl⟩
  show _=Ending.returned (.tuple #[.agg #[Go.Sx.vS d.name,d.ts.v,d.gs.v,d.ps.v,d.ms.v,d.is.v,d.qs.v,d.bs.v,r.ms.v,r.ls.v,.int .i64 ((j.toNat:Nat):Int)],.int .i64 0])
  rw[e];rfl
theorem c16(h:RfOk V mems r)(hk:r.k<=r.logs.length):PP 16 [r.v d] V (if r.k<r.logs.length then .tuple #[({ r with k:=r.k+1 }:Rf).v d,.int .i64 0] else .tuple #[r.v d,.int .i64 12]):=by
 refine x16 ?_
 unfold w16
 have hn:=h.lrows.n_eq
 have hc:=h.lrows.cap
 have hf:=h.lrows.fit
 refine⟨fun h1=>?_,fun h1=>?_⟩
 ·rw[if_neg (by omega)];exact⟨rfl,rfl⟩
 ·have h1:¬(r.ls.n:Int)<=(r.k:Int):=h1
  rw[if_pos (by omega)]
  exact⟨⟨by omega,by omega⟩,rfl,rfl⟩
theorem c41(h:RfOk V mems r)(hk:r.k<=r.logs.length)(hs:r.logs.sum<=2147483648):PP 41 [r.v d] V (.int .i64 ((r.logs.take r.k).sum:Nat)):=by
 refine x41 ?_
 unfold w41
 have hn:=h.lrows.n_eq
 have sm:∀j,j<=r.logs.length->(r.logs.take j).sum<=r.logs.sum:=fun j hj=>by
  have:=sum_mono r.logs hj
  simp_all
 refine qFW (mk:=fun n:Int=>.int .i64 n) (b0:=0) qDt r.k (fun i b V1=>V1=V/\b=(((r.logs.take i).sum:Nat):Int)) ⟨rfl,rfl⟩ ?_
 rintro i b V1 J hi ⟨rfl,rfl⟩ hJ
 refine⟨fun hlt=>?_,fun hge=>?_⟩
 ·have hlt:(i:Int)<(r.k:Int):=hlt
  obtain⟨y,-,hy,-,hil,hp,hz,hrow⟩:=h.lrows.get (i:=i) (by omega)
  have e:(r.logs.take (i+1)).sum=(r.logs.take i).sum+y:=by
   grind [qJL,List.getElem?_eq_getElem]
  have:=sm (i+1) (by omega)
  have hcp:=h.lrows.cap
  have hft:=h.lrows.fit
  exact⟨hp,hz,by omega,_,hrow,⟨by omega,by omega⟩,⟨by omega,by omega⟩,hJ (by omega) _ _ ⟨rfl,by rw[e];omega⟩⟩
 grind
theorem c9(hd:Ds.Ok V d)(hm:Mm.Ok V m):Tri Tryz.prog 9 #[d.v,m.v] V fun e V'=>V.sub V' /\
  ((¬qAs d m/\∃(b:ByteArray) (s1 s2 s3 s4 s5 s6 s7 s8 s9:Sl) (k:Int),e=.returned (.tuple #[.agg #[Go.Sx.vS b,s1.v,s2.v,s3.v,s4.v,s5.v,s6.v,s7.v,s8.v,s9.v,.int .i64 k],.int .i64 1])) ∨
  (qAs d m/\∃r:Rf,e=.returned (.tuple #[r.v d,.int .i64 0])/\RfOk V' [m.plain] r/\r.logs=[]/\r.k=0)):=by
 refine x9 ?_
 unfold w9
 refine(c33 hd hm (F:=0)).call ⟨_,rfl,fun h=>?_,fun h=>⟨Mem.sub.refl _,.inl ?_⟩⟩
 ·have G:=qEN h
  obtain⟨l1,l2,l3⟩:=qGa G
  refine Tri.mono (c34 hm l1 l2 l3) ?_
  rintro _ V1 ⟨gs,ns,nd,rfl,L⟩
  obtain⟨ho,hp⟩:=ok_copy hm L
  refine⟨gs,ns,rfl,fun tb htb=>?_⟩
  have s2:=Mem.sub_new htb (.cells (Mm.row ⟨gs,m.globals,ns,nd⟩).toArray 34 (0,0))
  refine⟨L.sub.trans s2,.inr ⟨G,⟨⟨some ⟨tb,0,none⟩,1,1⟩,qAt,[⟨gs,m.globals,ns,nd⟩],[],0⟩,rfl,⟨qAd.cells (xs:=[(⟨gs,m.globals,ns,nd⟩:Mm)]) (row:=Mm.row) mss rfl (fun _=>rfl) rfl (by simp),fun x hx=>?_,qAd.nil,?_⟩,rfl,rfl⟩⟩
  ·rw[List.mem_singleton.1 hx];exact ho.sub s2
  simp_all
 ·have hG:¬qAs d m:=fun G=>h (qJv G)
  have h1:qAC d m 0=1:=by grind [qAC]
  exact⟨hG,qAl [],qAt,qAt,qAt,qAt,qAt,qAt,qAt,qAt,qAt,0,by rw[h1];rfl⟩
theorem copyG{α:Type}{t e sz:Nat}{row:α->List Value}(A:AppP t e sz row){b:Nat}{xs:List α}(hb:V b=none)(h:qAd V l sz (xs.map row))(hn:xs.length<=2147483648){ty:Nat}{y z:Operand}{vals:Operand->Value}(hx:vals y=.slice (sa b) 0 0)(hy:vals z=.slice l.p l.n l.c){Q:Value->Mem->Prop}(hQ:∀s V',Sx.Own V V' e sz s (xs.flatMap row)->Q (.slice s.p s.n s.c) V') :
  GenK Tryz.prog (.call { callee:=.builtin .append,args:=#[y,z],argTypes:=#[t,t] }) ty vals (V.set b (.cells #[] e (0,0))) Q:=by
 have s1:=Mem.sub_new hb (.cells #[] e (0,0))
 exact A (s:=⟨some ⟨b,0,none⟩,0,0⟩) (u:=l) (xs:=[]) (ys:=xs) hx hy (Own.empty (V0:=V) s1 _ _ _) (h.sub s1) (by simpa using hn) fun s' V' ho=>hQ s' V' (by simpa using ho)
end
theorem base0(s:Sl)(k:Nat):(if (s.c:Int)=(0:Int) then s.p else qAa s.p ((0:Int).toNat*k))=s.p:=by
 split
 ·rfl
 ·rw[show (0:Int).toNat*k=0 by simp]
  cases s.p with
  | none=>rfl
  | some a =>
   rfl
theorem rows_pre{α:Type}{V:Mem}{s:Sl}{sz:Nat}{row:α->List Value}{xs:List α}(h:qAd V s sz (xs.map row)){n:Nat}(hn:n<=xs.length):qAd V ⟨s.p,n,s.c⟩ sz ((xs.take n).map row):=by
 have h0:=h.n_eq
 have hc:=h.cap
 refine⟨?_,by grind,h.fit,fun r hr=>?_,fun i r hr=>?_⟩
 ·simp_all
 ·obtain⟨x,hx,rfl⟩:=List.mem_map.1 hr
  exact h.size _ (List.mem_map.2 ⟨x,List.mem_of_mem_take hx,rfl⟩)
 ·rw[List.getElem?_map,List.getElem?_take]at hr
  split at hr
  ·exact h.at_ i r (by simp_all)
  ·cases hr
theorem One.grow{D V V':Mem}{B:Nat->Prop}{s:Sto}(h:One D V B s)(hs:V.sub V'):One D V' B s:=by
 obtain⟨M,f,hb,hd,hn⟩:=h
 exact⟨M,f.keep fun c o _ hc=>hs _ _ hc,fun c hc=>⟨by
  cases hv:V c with
  | none=>simp_all
  | some o=>rw[hs _ _ hv];simp,(hb c hc).2⟩,hd.trans hs,hn⟩
theorem oneG{α:Type}{t e sz:Nat}{row:α->List Value}(A:AppP t e sz row){V0 V:Mem}{b:Nat}{s:Sl}{xs:List α}{x:α}(o:Sx.Own V0 V e sz s (xs.flatMap row))(hb:V b=none)(hn:xs.length+1<=2147483648){ty:Nat}{y z:Operand}{vals:Operand->Value}(hx:vals y=.slice s.p s.n s.c)(hy:vals z=.slice (sa b) 1 1)(hl:∀x,(row x).length=sz){Q:Value->Mem->Prop}(hQ:∀s' V',Sx.Own V0 V' e sz s' ((xs++[x]).flatMap row)->Q (.slice s'.p s'.n s'.c) V') :
  GenK Tryz.prog (.call { callee:=.builtin .append,args:=#[y,z],argTypes:=#[t,t] }) ty vals (V.set b (.cells (row x).toArray e (0,0))) Q :=
 A (s:=s) (u:=⟨some ⟨b,0,none⟩,1,1⟩) (xs:=xs) (ys:=[x]) hx hy (o.new hb _) (qAd.cells (xs:=[x]) (row:=row) mss (by simp) hl (by simp) (by simp)) (by simpa using hn) hQ
theorem wr_succ{l:List (Int×Int×Int)}{i:Nat}{x:Int×Int×Int}(h:l[i]?=some x):((l.take (i+1)).filter fun t=>decide (t.1≠1)).length=((l.take i).filter fun t=>decide (t.1≠1)).length+if x.1=1 then 0 else 1:=by
 grind [List.take_add_one,List.length_append]
section
variable{V:Mem}{d:Ds}{m m':Mm}{mems:List Gm}{r:Rf}{x:Gm}{F:Nat}{nm:ByteArray}{args:List Int}{l:Sl}{atm:Bool}
theorem given_pl(h:m.plain=m'.plain){F:Int}:qAC d m F=qAC d m' F:=by
 have e:qAs d m↔qAs d m':=⟨fun g=>⟨g.valid,g.chk,qCl h g.mem⟩,fun g=>⟨g.valid,g.chk,qCl h.symm g.mem⟩⟩
 grind [qAC]
theorem start_pl(h:m.plain=m'.plain):qAE d m nm args F=qAE d m' nm args F:=by
 unfold qAE
 rw[given_pl h,qGK h]
def RefNo(d:Ds)(r:Rf)(o:List Value)(c:Int):Ending->Prop:=fun e=>e=.returned (.tuple #[r.v d,.agg o.toArray,.int .i64 c])
def RefStep(V':Mem)(d:Ds)(mems:List Gm)(r:Rf)(q:Rx Int):Ending->Prop:=fun e=>∃r':Rf,e=.returned (.tuple #[r'.v d,.agg (qFN q).toArray,.int .i64 0])/\RfOk V' (mems.take (r.k+1)++[(q.st.g,q.st.ns)]) r'/\r'.logs=r.logs.take r.k++[(q.st.lg.filter fun t=>decide (t.1≠1)).length]/\r'.k=r.k+1
def RefQ(d:Ds)(mems:List Gm)(r:Rf)(x:Gm)(F:Nat)(nm:ByteArray)(args:List Int)(atm:Bool):Ending->Mem->Prop:=fun e V' =>
 ((qAE d (gmM x) nm args F≠0/\RefNo d r (qCZ 0 0 0 0) (qAE d (gmM x) nm args F) e) ∨
 (qAE d (gmM x) nm args F=0/\∃q:Rx Int,q=qCn d F (qDJ d nm) args (gst x) /\
  ((atm=true/\qKb q≠0/\RefNo d r (qFN q) 0 e)∨(¬(atm=true/\qKb q≠0)/\RefStep V' d mems r q e))))
theorem c12(hd:Ds.Ok V d)(h:RfOk V mems r)(hx:mems[r.k]?=some x)(G:OkG d x)(ha:qAd V l 1 (args.map qAo))(hF:F<=4000)(hk:r.k<2000)(hkl:r.k<=r.logs.length)(hm0:mems.length=r.logs.length+1) :
  Tri Tryz.prog 12 #[r.v d,.agg #[.string nm,l.v],.int .i64 F,.bool atm] V (fun e V'=>V.sub V'/\RefQ d mems r x F nm args atm e V'):=by
 obtain⟨R,hR⟩:∃R,R=fun e V'=>V.sub V'/\RefQ d mems r x F nm args atm e V':=⟨_,rfl⟩
 rw[<- hR]
 refine x12 (R:=R) ?_
 unfold w12
 obtain⟨m,hmo,hmp,hM⟩:=c37 (d:=d) h hx
 refine hM.call ⟨_,_,rfl,Tri.mono (c36 hd hmo ha hF) ?_⟩
 have hmg:m.plain=(gmM x).plain:=by rw[hmp,qDE]
 rintro e V1 (⟨hc,hs,q,-,rfl⟩|⟨hc,p,q,hq,M,rfl⟩)
 ·rw[start_pl hmg]at hc ⊢
  refine⟨_,_,rfl,fun h=>absurd h hc,fun _=>?_⟩
  rw[hR];exact⟨hs,.inl ⟨hc,rfl⟩⟩
 rw[start_pl hmg]at hc
 have hst:qDM m=gst x:=by unfold qDM gst;rw[<- hmp];rfl
 rw[hst]at hq
 obtain⟨gs,ns,ls,nd,hat,L⟩:=M.ex
 have s1:=L.sub
 refine⟨_,_,rfl,fun _=>⟨fun h=>absurd (by omega) (Nat.not_le.2 hk),fun _=>(c38 M).call ⟨_,_,_,_,_,rfl,?_⟩⟩,fun h=>absurd rfl h⟩
 -- the tail: the log is counted, the lists are copied
 have hg:OkG d (q.st.g,q.st.ns):=(qKE F (qEG hc).1 (qEG hc).2 (r:=q) (by grind [qDM,gmM,gst,Function.comp_def])).ok
 obtain⟨hmA,hpA⟩:=qFT hd L (by exact hg)
 have R5:=L.log.rows (row:=qFg) (fun _=>rfl) (by decide)
 have hfl:∀i,((q.st.lg.take i).filter fun t=>decide (t.1≠1)).length<=i:=fun i=>Nat.le_trans (List.length_filter_le _ _) (by grind)
 have hrn:=R5.n_eq
 have hrf:=R5.fit
 have hrc:=R5.cap
 have hr2:r.mms.length=mems.length:=by rw[<- h.pl,List.length_map]
 have hn2:=h.rows.n_eq
 have hn3:=h.lrows.n_eq
 have hc2:=h.rows.cap
 have hc3:=h.lrows.cap
 have hf2:=h.rows.fit
 have hf3:=h.lrows.fit
 have e1:((r.k:Int)+1-0).toNat=r.k+1:=by omega
 have e2:((r.ms.c:Int)-0).toNat=r.ms.c:=by omega
 have e3:((r.k:Int)-0).toNat=r.k:=by omega
 have e4:((r.ls.c:Int)-0).toNat=r.ls.c:=by omega
 have stay:(atm=true/\qKb q≠0)->R (.returned (.tuple #[r.v d,.agg (qFN q).toArray,.int .i64 0])) V1:=fun hno=>by
  rw[hR];exact⟨s1,.inr ⟨hc,q,hq,.inl ⟨hno.1,hno.2,rfl⟩⟩⟩
 have fin:¬(atm=true/\qKb q≠0)->∀{V':Mem} {s1 s2 s3 s4:Sl} {V6:Mem},Sx.Own V1 V6 34 2 s2 ((r.mms.take (r.k+1)++[(⟨gs,q.st.g,ns,nd⟩:Mm)]).flatMap Mm.row)->Sx.Own V6 V' 3 1 s4 ((r.logs.take r.k++[(q.st.lg.filter fun t=>decide (t.1≠1)).length]).flatMap qEc)->R (.returned (.tuple #[({ r with ms:=s2,ls:=s4,k:=r.k+1 }:Rf).v d,.agg (qFN q).toArray,.int .i64 0])) V':=fun hno V' s1' s2 s3 s4 V6 o1 o2=>by
  rw[hR]
  refine⟨s1.trans (o1.sub.trans o2.sub),.inr ⟨hc,q,hq,.inr ⟨hno,⟨s2,s4,r.mms.take (r.k+1)++[(⟨gs,q.st.g,ns,nd⟩:Mm)],_,r.k+1⟩,rfl,⟨(o1.rows qIj (by decide)).sub o2.sub,fun y hy=>?_,o2.rows qCo (by decide),?_⟩,rfl,rfl⟩⟩⟩
  ·rcases List.mem_append.1 hy with hy|hy
   ·exact(h.ok y (List.mem_of_mem_take hy)).sub (s1.trans (o1.sub.trans o2.sub))
   ·rw[List.mem_singleton.1 hy];exact hmA.sub (o1.sub.trans o2.sub)
  ·rw[List.map_append,List.map_take,h.pl]
   simp_all
 refine⟨fun ht=>⟨fun h0=>?_,fun h0=>stay ⟨ht,h0⟩⟩,fun ht=>?_⟩
 all_goals
  have hno:¬(atm=true/\qKb q≠0):=by
   first
    | exact fun hh=>hh.2 h0
    | simp_all
  refine qFW (mk:=fun n:Int=>.int .i64 n) (b0:=0) qDt q.st.lg.length (fun i b V2=>V2=V1/\b=((((q.st.lg.take i).filter fun t=>decide (t.1≠1)).length:Nat):Int)) ⟨rfl,rfl⟩ ?_
  rintro i b V2 J hi ⟨rfl,rfl⟩ hJ
  refine⟨nn,nn,ls,qAc hat 17 1 (by simp[qBt]),fun hlt=>?_,fun hge=>?_⟩
  ·obtain⟨y,-,hy,-,hil,hp,hz,hrow⟩:=R5.get hlt
   have e:=wr_succ hy
   have:=hfl i
   refine⟨nn,nn,ls,qAc hat 17 1 (by simp[qBt]),hp,hz,hlt,qAe hp,_,_,_,hrow,fun h1=>⟨R5.succ hlt,hJ hil _ _ ⟨rfl,?_⟩⟩,fun h1=>⟨⟨by omega,by omega⟩,R5.succ hlt,hJ hil _ _ ⟨rfl,?_⟩⟩⟩
   ·rw[e,if_pos h1];omega
   ·rw[e,if_neg h1];omega
  have hdn:=(R5.done hge).2
  rw[List.take_of_length_le hdn]
  have hb2:=List.length_filter_le (fun t:Int×Int×Int=>decide (t.1≠1)) q.st.lg
  rw[base0,base0,e1,e2,e3,e4]
  have row8:=qAc hat 8 2 (by simp[qBt])
  have row8':=qAD hat 8 0 2 (by simp[qBt])
  have hi1:K.inR .i64 ((r.k:Int)+1):=⟨by omega,by omega⟩
  have hi2:(0:Int)<=0/\(0:Int)<=(r.k:Int)+1/\(r.k:Int)+1<=(r.ms.c:Int):=⟨by omega,by omega,by omega⟩
  refine⟨hi1,hi1,hi2,nn,nn,gs,ns,row8,⟨hi2,hi1,hi2,hi1,?_⟩,row8',nn,nn,hi2,hi1,⟨hi2,hi1,?_⟩,?_⟩
  all_goals
   intro b1 hb1
   refine copyG app42 (l:=⟨r.ms.p,r.k+1,r.ms.c⟩) (xs:=r.mms.take (r.k+1)) hb1 (rows_pre (h.rows.sub s1) (by omega)) (by rw[List.length_take];omega) rfl rfl fun t1 V3 o1=>⟨t1,rfl,?_⟩
   try
    refine⟨qAD (o1.sub _ _ hat) 8 0 2 (by simp[qBt]),nn,nn,?_⟩
   intro b2 hb2'
   refine oneG app42 (x:=(⟨gs,q.st.g,ns,nd⟩:Mm)) (s:=t1) o1 hb2' (by rw[List.length_take];omega) rfl rfl qIj fun t2 V4 o2=>⟨t2,rfl,⟨by omega,by omega,by omega⟩,fun b3 hb3=>?_⟩
   refine copyG appN (l:=⟨r.ls.p,r.k,r.ls.c⟩) (xs:=r.logs.take r.k) hb3 (rows_pre ((h.lrows.sub s1).sub o2.sub) hkl) (by rw[List.length_take];omega) rfl rfl fun t3 V5 o3=>⟨t3,rfl,?_⟩
   intro b4 hb4
   have X:=fun(y z:Operand) (vals:Operand->Value) hx hy Q hQ=>@oneG Nat _ _ _ qEc appN V4 V5 b4 t3 (r.logs.take r.k) (q.st.lg.filter fun t=>decide (t.1≠1)).length o3 hb4 (by rw[List.length_take];omega) 31 y z vals hx hy qCo Q hQ
   refine X (.tmp 94) (.tmp 96) _ rfl rfl _ fun t4 V6 o4=>?_
   exact⟨t4,rfl,fin hno (s1:=t1) (s3:=t3) o2 o4⟩
theorem refEv(hd:Ds.Ok V d)(h:RfOk V mems r)(hx:mems[r.k]?=some x){F:Int}(hg:qAC d (gmM x) F≠0) :
  Tri Tryz.prog 12 #[r.v d,.agg #[.string nm,l.v],.int .i64 F,.bool atm] V (fun e V'=>V.sub V'/\RefNo d r (qCZ 0 0 0 0) (qAC d (gmM x) F) e):=by
 refine x12 ?_
 unfold w12
 obtain⟨m,hmo,hmp,hM⟩:=c37 (d:=d) h hx
 have hmg:m.plain=(gmM x).plain:=by rw[hmp,qDE]
 rw[<- given_pl hmg]at hg ⊢
 refine hM.call ⟨_,_,rfl,Tri.mono (startXe hd hmo hg) ?_⟩
 rintro _ V1 ⟨hs,q,-,rfl⟩
 exact⟨_,_,rfl,fun h=>absurd h hg,fun _=>⟨hs,rfl⟩⟩
end
structure Fol (D:Mem) (d:Ds) (s:Sto) (r:Rf) (n:Nat):Prop where
 hk:s.k=(r.k:Int)
 sd:qEF d s.d
 ok:Ds.Ok D s.d
 dok:Ds.Ok D d
 rf:∃mems,RfOk D mems r/\qGp (OkG d) mems r.logs r.k s.log s.ends/\mems[r.k]?=some s.x
 lg:s.log.length<=2400000*n
 le:r.logs.length<=n
section
variable{D D' V:Mem}{B:Nat->Prop}{d:Ds}{s:Sto}{r:Rf}{n:Nat}{nm:ByteArray}{args:List Int}{l:Sl}{at':Bool}{F:Int}
theorem Fol.sub(T:Fol D d s r n)(hs:D.sub D'):Fol D' d s r n:=by
 obtain⟨mems,h1,h2,h3⟩:=T.rf
 exact⟨T.hk,T.sd,T.ok.sub hs,T.dok.sub hs,⟨mems,h1.sub hs,h2,h3⟩,T.lg,T.le⟩
theorem Fol.more(T:Fol D d s r n):Fol D d s r (n+1):=⟨T.hk,T.sd,T.ok,T.dok,T.rf,Nat.le_trans T.lg (by omega),Nat.le_succ_of_le T.le⟩
theorem Fol.good(T:Fol D d s r n):OkG d s.x:=by
 obtain⟨mems,-,H,hx⟩:=T.rf
 exact H.ok _ (List.mem_of_getElem? hx)
theorem Fol.kle(T:Fol D d s r n):r.k<=r.logs.length/\s.ends.length=r.logs.length:=by
 obtain⟨mems,-,H,-⟩:=T.rf
 exact⟨H.le,H.elen⟩
def BothP(D:Mem)(B:Nat->Prop)(d:Ds)(p:Nat)(n:Nat)(r':Rf)(V':Mem):Prop:=∃s',s'.p=p/\∃D',D.sub D'/\One D' V' B s'/\Fol D' d s' r' (n+1)
def PairP(D:Mem)(B:Nat->Prop)(d:Ds)(p:Nat)(r:Rf)(n:Nat)(nm:ByteArray)(l:Sl)(F:Int)(at':Bool):Ending->Mem->Prop:=fun e V1=>∃a1 a2 a3 a4 a5 c:Int,e=.returned (.tuple #[.agg #[.int .i64 a1,.int .i64 a2,.int .i64 a3,.int .i64 a4,.int .i64 a5],.int .i64 c]) /\
 Tri Tryz.prog 12 #[r.v d,.agg #[.string nm,l.v],.int .i64 F,.bool at'] V1 fun e V2=>∃r':Rf,e=.returned (.tuple #[r'.v d,.agg #[.int .i64 a1,.int .i64 a2,.int .i64 a3,.int .i64 a4,.int .i64 a5],.int .i64 c])/\BothP D B d p n r' V2
theorem PairP.one{p:Nat}:OneP (PairP D B d p r n nm l F at'):=by
 rintro e V' ⟨a,b,c,d,f,g,h,-⟩
 simp_all
theorem stepPair[Tab D](O:One D V B s)(T:Fol D d s r n)(ha:qAd D l 1 (args.map qAo))(hF:qIu F)(hn:n<=14) :
  Tri Tryz.prog 35 #[.pointer (some ⟨s.p,0,none⟩),.agg #[.string nm,l.v],.int .i64 F,.bool at'] V (PairP D B d s.p r n nm l F at'):=by
 obtain⟨W,w1,-,S,back⟩:=O.sto
 have S:SA W V s.p s.d s.x s.log s.ends s.k s.lg s.en:=S
 rw[T.hk]at S
 haveI:Tab W:=Tab.sub (V:=D) inferInstance w1
 have hg:=T.good
 obtain⟨mems,hr,H,hx⟩:=T.rf
 have hlg:=T.lg
 have hle:=T.le
 have hkl:=T.kle
 have hml:=H.len
 have stay:∀{V1:Mem},SA W V1 s.p s.d s.x s.log s.ends (r.k:Int) s.lg s.en->One D V1 B ⟨s.p,s.d,s.x,s.log,s.ends,r.k,s.lg,s.en⟩:=fun S1=>(back (s':=⟨s.p,s.d,s.x,s.log,s.ends,r.k,s.lg,s.en⟩) S1).1
 have T0:Fol D d ⟨s.p,s.d,s.x,s.log,s.ends,r.k,s.lg,s.en⟩ r n:=⟨rfl,T.sd,T.ok,T.dok,⟨mems,hr,H,hx⟩,T.lg,T.le⟩
 by_cases hr0:0<=F/\F<=600
 ·obtain⟨F,rfl⟩:∃a:Nat,F=(a:Int):=⟨F.toNat,by omega⟩
  have hF6:F<=600:=by omega
  have R:∀{V1:Mem} {s1:Sto},One D V1 B s1->Tri Tryz.prog 12 #[r.v d,.agg #[.string nm,l.v],.int .i64 F,.bool at'] V1 fun e V2=>∃D',D.sub D'/\RefQ d mems r s.x F nm args at' e D'/\One D' V2 B s1/\∀b,B b->V2 b=V1 b:=fun O1 =>
   One.run O1 fun U hU=>c12 (T.dok.sub hU) (hr.sub hU) hx hg (ha.sub hU) (by omega) (by omega) hkl.1 hml
  refine Tri.mono (c35 S H hg T.sd (T.ok.sub w1) (ha.sub w1) (by omega) (by omega) (by omega)) ?_
  rintro e V1 (⟨hc,rfl,S1⟩|⟨hc,q,hq,h⟩)
  ·refine⟨_,_,_,_,_,_,rfl,Tri.mono (R (stay S1)) ?_⟩
   rintro e V2 ⟨D',hD,⟨-,rfl⟩|⟨h0,-⟩,O2,-⟩
   ·exact⟨r,rfl,_,by rfl,D',hD,O2,(T0.sub hD).more⟩
   omega
  rcases h with⟨h,-⟩|⟨-,ht,ho,rfl,S1⟩|⟨-,hno,rfl,lg',en',S1⟩
  ·omega
  ·refine⟨_,_,_,_,_,_,rfl,Tri.mono (R (stay S1)) ?_⟩
   rintro e V2 ⟨D',hD,⟨h0,-⟩|⟨-,q',hq',⟨-,-,rfl⟩|⟨hno,-⟩⟩,O2,-⟩
   ·omega
   ·obtain rfl:q'=q:=by rw[hq',hq]
    exact⟨r,rfl,_,by rfl,D',hD,O2,(T0.sub hD).more⟩
   simp_all
  ·obtain⟨H1,H2,H3⟩:=made_of H hx hc hq
   refine⟨_,_,_,_,_,_,rfl,Tri.mono (R (back (s':=⟨s.p,s.d,(q.st.g,q.st.ns),_,_,((r.k+1:Nat):Int),lg',en'⟩) S1).1) ?_⟩
   rintro e V2 ⟨D',hD,⟨h0,-⟩|⟨-,q',hq',⟨ht,ho,-⟩|⟨-,r',rfl,hr',hl',hk'⟩⟩,O2,-⟩
   ·omega
   ·simp_all
   ·obtain rfl:q'=q:=by rw[hq',hq]
    refine⟨r',rfl,_,by rfl,D',hD,O2,by simp_all,T.sd,T.ok.sub hD,T.dok.sub hD,⟨_,hr',?_,?_⟩,?_,?_⟩
    ·simp_all
    ·simp_all
    ·grind
    grind
 ·have hgv:qAC d (gmM s.x) F≠0:=fun h=>by
   have:=given_fuel h
   grind [qIu]
  refine Tri.mono (stepEv S hg T.sd (T.ok.sub w1) hgv) ?_
  rintro e V1 ⟨rfl,S1⟩
  refine⟨_,_,_,_,_,_,rfl,Tri.mono (One.run (R:=fun e _=>RefNo d r (qCZ 0 0 0 0) (qAC d (gmM s.x) F) e) (stay S1) fun U hU=>refEv (T.dok.sub hU) (hr.sub hU) hx hgv) ?_⟩
  rintro e V2 ⟨D',hD,rfl,O2,-⟩
  exact⟨r,rfl,_,by rfl,D',hD,O2,(T0.sub hD).more⟩
theorem undoPair(O:One D V B s)(T:Fol D d s r n){j:Int}:Tri Tryz.prog 13 #[.pointer (some ⟨s.p,0,none⟩),.int .i64 j] V fun e V1=>∃c:Int,e=.returned (.int .i64 c)/\∃r':Rf,PP 14 [r.v d,.int .i64 j] V1 (.tuple #[r'.v d,.int .i64 c])/\BothP D B d s.p n r' V1:=by
 obtain⟨W,w1,-,S,back⟩:=O.sto
 have S:SA W V s.p s.d s.x s.log s.ends s.k s.lg s.en:=S
 rw[T.hk]at S
 obtain⟨mems,hr,H,hx⟩:=T.rf
 have U:=fun V1=>c14 (V:=V1) (d:=d) (r:=r) (j:=j)
 refine Tri.mono (c13 (j:=j) S H hx) ?_
 rintro _ V1 (⟨hno,rfl,rfl⟩|⟨q,hq,hqk,rfl,x',hx',S'⟩)
 ·rw[if_neg hno]at U
  exact⟨_,rfl,r,U _,s,rfl,D,Mem.sub.refl _,O,T.more⟩
 ·rw[if_pos (by omega)]at U
  refine⟨_,rfl,_,U _,⟨s.p,s.d,x',s.log,s.ends,(q:Int),s.lg,s.en⟩,rfl,D,Mem.sub.refl _,(back (s':=⟨s.p,s.d,x',s.log,s.ends,(q:Int),s.lg,s.en⟩) S').1,?_⟩
  have hjq:j.toNat=q:=by omega
  refine Fol.more ⟨by simp_all,T.sd,T.ok,T.dok,⟨mems,⟨hr.rows,hr.ok,hr.lrows,hr.pl⟩,?_,?_⟩,T.lg,T.le⟩
  ·show qGp _ _ _ j.toNat _ _
   rw[hjq];exact H.move (Nat.le_trans hqk H.le)
  simp_all
theorem redoPair(O:One D V B s)(T:Fol D d s r n):Tri Tryz.prog 15 #[.pointer (some ⟨s.p,0,none⟩)] V fun e V1=>∃m c:Int,e=.returned (.tuple #[.int .i64 m,.int .i64 c])/\∃r':Rf,PP 16 [r.v d] V1 (.tuple #[r'.v d,.int .i64 c])/\BothP D B d s.p n r' V1/\(c=0->m=(r'.k:Int))/\(c≠0->m=0):=by
 obtain⟨W,w1,w2,S,back⟩:=O.sto
 have S:SA W V s.p s.d s.x s.log s.ends s.k s.lg s.en:=S
 rw[T.hk]at S
 obtain⟨mems,hr,H,hx⟩:=T.rf
 have hkl:=T.kle
 refine Tri.mono (c15 S H hx) ?_
 rintro _ V1 (⟨h,rfl,rfl⟩|⟨h,rfl,x',hx',S'⟩)
 ·have U:=c16 (d:=d) (hr.sub (w1.trans w2)) hkl.1
  rw[if_neg (by omega)]at U
  exact⟨_,_,rfl,r,U,⟨s,rfl,D,Mem.sub.refl _,O,T.more⟩,fun h=>absurd h (by decide),fun _=>rfl⟩
 ·have O':=(back (s':=⟨s.p,s.d,x',s.log,s.ends,((r.k+1:Nat):Int),s.lg,s.en⟩) S').1
  have U:=c16 (d:=d) (hr.sub (One.sub O')) hkl.1
  rw[if_pos h]at U
  exact⟨_,_,rfl,_,U,⟨⟨s.p,s.d,x',s.log,s.ends,((r.k+1:Nat):Int),s.lg,s.en⟩,rfl,D,Mem.sub.refl _,O',Fol.more ⟨rfl,T.sd,T.ok,T.dok,⟨mems,⟨hr.rows,hr.ok,hr.lrows,hr.pl⟩,H.move h,hx'⟩,T.lg,T.le⟩⟩,fun _=>rfl,fun h=>absurd rfl h⟩
theorem c17(O:One D V B s)(T:Fol D d s r n)(hn:n<=15):Tri Tryz.prog 17 #[.pointer (some ⟨s.p,0,none⟩),r.v d] V fun e V1=>V.sub V1/\e=.returned (.bool true):=by
 obtain⟨W,w1,w2,S,-⟩:=O.sto
 have S:SA W V s.p s.d s.x s.log s.ends s.k s.lg s.en:=S
 rw[T.hk]at S
 have hg:=T.good
 obtain⟨mems,hr,H,hx⟩:=T.rf
 have hkl:=T.kle
 have hlg:=T.lg
 have hrV:=hr.sub (w1.trans w2)
 have hn3:=hrV.lrows.n_eq
 refine x17 ?_
 unfold w17
 have hsum:r.logs.sum<=s.log.length:=by
  have h1:=H.sum s.ends.length (Nat.le_refl _)
  rw[<- H.ll,List.take_of_length_le (by omega)]at h1
  omega
 refine(c18 S).call ⟨_,rfl,fun _=>(c19 S).call ⟨_,rfl,fun _=>(c20 S (by omega)).call ⟨_,rfl,(c41 (d:=d) hrV hkl.1 (by omega)).call ⟨_,rfl,fun _=>?_,fun h=>absurd ?_ h⟩⟩,fun h=>absurd ?_ h⟩,fun h=>absurd rfl h⟩
 ·refine Tri.mono (c21 S (T.ok.sub w1) (show OkG s.d s.x from qAs.same (m:=gmM s.x) hg T.sd)) ?_
  rintro _ V2 ⟨s2,m2,rfl,ho2,hp2⟩
  obtain⟨m3,ho3,hp3,hM⟩:=c37 (d:=d) (hrV.sub s2) hx
  refine⟨m2.gs,m2.ns,rfl,hM.call ⟨m3.gs,m3.ns,rfl,(c22 (a:=m2) (b:=m3) ho2 ho3).call ⟨_,rfl,s2,?_⟩⟩⟩
  simp_all
 ·show (qAT s.ends r.k:Int)=((r.logs.take r.k).sum:Nat)
  rw[H.sum _ (by omega)]
 omega
end
theorem fol_new{D:Mem}{d d':Ds}{m:Mm}{p:Nat}{r:Rf}(hd:Ds.Ok D d)(hd':Ds.Ok D d')(SD:qEF d d')(G:qAs d m)(hr:RfOk D [m.plain] r)(hl:r.logs=[])(hk:r.k=0):Fol D d ⟨p,d',m.plain,[],[],((0:Nat):Int),qAt,qAt⟩ r 0 :=
 ⟨by rw[hk],SD,hd',hd,⟨_,hr,by grind [qGp.start,OkG.of],by rw[hk];rfl⟩,Nat.zero_le _,by simp_all⟩
section
variable{V:Mem}{d:Ds}{m:Mm}{sl:Sl}{cs:List Stp}
theorem c3[Tab V](hd:Ds.Ok V d)(hm:Mm.Ok V m)(hl:qAd V sl 5 (cs.map Stp.row))(ha:∀x∈cs,∃args:List Int,qAd V x.l 1 (args.map qAo)):PP 3 [d.v,m.v,sl.v] V (.bool true):=by
 obtain⟨R,hR⟩:∃R:Ending->Mem->Prop,R=fun e V'=>e=.returned (.bool true)/\V.sub V':=⟨_,rfl⟩
 refine Pur.mk ?_
 rw[<- hR]
 refine x3 ?_
 unfold w3
 have fin:∀{V'},V.sub V'->R (.returned (.bool true)) V':=fun h=>by simp_all
 refine c6.call ⟨_,rfl,fun _=>?_,fun h=>absurd rfl h⟩
 refine Tri.mono (smallS hd hm hl) ?_
 rintro _ _ ⟨rfl,b,rfl,hsm⟩
 refine⟨_,rfl,fun hb=>?_,fun _=>fin (Mem.sub.refl _)⟩
 obtain⟨hlen,hfu⟩:=hsm hb
 refine Tri.mono (c8 hd hm) ?_
 rintro _ V3 (⟨G,s3,rfl⟩|⟨G,p,d',W,rfl,sW,hd',SD,S⟩)
 ·refine⟨_,_,rfl,Tri.mono (c9 (hd.sub s3) (hm.sub s3)) ?_⟩
  rintro _ V4 ⟨s4,⟨-,b0,s1,s2,s3',s4',s5,s6,s7,s8,s9,k,rfl⟩|⟨G',-⟩⟩
  ·exact⟨_,_,_,_,_,_,_,_,_,_,_,_,rfl,fun _=>⟨fun _=>⟨fun h=>absurd h (by decide),fun _=>fin (s3.trans s4)⟩,fun h=>absurd rfl h⟩,fun h=>absurd rfl h⟩
  simp_all
 have O3:One W V3 (fun _=>False) ⟨p,d',m.plain,[],[],((0:Nat):Int),qAt,qAt⟩:=One.new S (Mem.sub.refl _)
 refine⟨_,_,rfl,Tri.mono (One.run (R:=fun e D'=>(¬qAs d m/\∃(b:ByteArray) (s1 s2 s3 s4 s5 s6 s7 s8 s9:Sl) (k:Int),e=.returned (.tuple #[.agg #[Go.Sx.vS b,s1.v,s2.v,s3.v,s4.v,s5.v,s6.v,s7.v,s8.v,s9.v,.int .i64 k],.int .i64 1])) ∨
  (qAs d m/\∃r:Rf,e=.returned (.tuple #[r.v d,.int .i64 0])/\RfOk D' [m.plain] r/\r.logs=[]/\r.k=0)) O3 fun U hU=>c9 (hd.sub (sW.trans hU)) (hm.sub (sW.trans hU))) ?_⟩
 rintro _ V4 ⟨D,hD,⟨G',-⟩|⟨-,r,rfl,hr,hrl,hrk⟩,O4,-⟩
 ·grind
 have T4:=fol_new (p:=p) (hd.sub (sW.trans hD)) (hd'.sub hD) SD G hr hrl hrk
 refine⟨_,_,_,_,_,_,_,_,_,_,_,_,rfl,fun _=>⟨fun _=>⟨fun _=>?_,fun h=>absurd rfl h⟩,fun h=>absurd rfl h⟩,fun h=>absurd rfl h⟩
 refine⟨fun n xs V5=>∃(i:Nat) (s:Sto) (r:Rf) (e f:Int) (b:Bool) (D':Mem),n=cs.length-i/\i<=cs.length/\xs=[.string d.name,d.ts.v,d.gs.v,d.ps.v,d.ms.v,d.is.v,d.qs.v,d.bs.v,r.ms.v,r.ls.v,.int .i64 r.k,.int .i64 e,.int .i64 f,.bool b,.int .i64 i]/\s.p=p/\W.sub D'/\One D' V5 (fun _=>False) s/\Fol D' d s r i,cs.length,⟨0,_,r,_,_,_,D,rfl,Nat.zero_le _,rfl,by rfl,hD,O4,T4⟩,?_⟩
 rintro n V5 v27 v28 v29 v30 v31 v32 v33 v34 v35 v36 v37 v38 v39 v40 v41 ⟨i,s,r5,e,f,bb,D5,rfl,hi,hv,hsp,hD5,O5,T5⟩ J hJ
 simp only[List.cons.injEq,and_true]at hv
 obtain⟨h1,h2,h3,h4,h5,h6,h7,h8,h9,h10,h11,h12,h13,h14,h15⟩:=hv
 cases inj_s _ _ h1;cases qBD _ _ h2;cases qBD _ _ h3;cases qBD _ _ h4;cases qBD _ _ h5;cases qBD _ _ h6;cases qBD _ _ h7;cases qBD _ _ h8;cases qBD _ _ h9;cases qBD _ _ h10
 cases qDt _ _ h11;cases qDt _ _ h12;cases qDt _ _ h13;cases qDt _ _ h15;cases h14
 have sD:V.sub D5:=sW.trans hD5
 have s5:V.sub V5:=sD.trans O5.sub
 haveI:Tab D5:=Tab.sub (V:=V) inferInstance sD
 have hl5:=hl.sub s5
 refine⟨fun hlt=>?_,fun _=>fin s5⟩
 obtain⟨x,hxm,hx,-,hil,hp,hz,hrow⟩:=hl5.get hlt
 obtain⟨args,hargs⟩:=ha x hxm
 have hF:=hfu x hxm
 have hin:=hl5.succ hlt
 have tail:∀{V7 D7:Mem} {s':Sto} {r':Rf} (e f:Int) (b:Bool),s'.p=s.p->D5.sub D7->One D7 V7 (fun _=>False) s'->Fol D7 d s' r' (i+1) ->
   Tri Tryz.prog 17 #[pv p,r'.v d] V7 fun e1 V8=>∃v70,e1=rV (uB v70)/\Br (v70=true) (IR ((i:Int)+1)/\J [.string d.name,d.ts.v,d.gs.v,d.ps.v,d.ms.v,d.is.v,d.qs.v,d.bs.v,r'.ms.v,r'.ls.v,.int .i64 r'.k,.int .i64 e,.int .i64 f,.bool b,.int .i64 ((i:Int)+1)] V8) (R (rV (uB false)) V8):=fun {V7 D7 s' r'} e f b h1 h2 O7 T7=>by
  have H:=c17 O7 T7 (by omega)
  rw[h1,hsp]at H
  refine Tri.mono H ?_
  rintro _ V8 ⟨s8,rfl⟩
  exact⟨_,rfl,fun _=>⟨hin,hJ _ _ _ (by omega) ⟨i+1,s',r',e,f,b,D7,rfl,hil,rfl,h1.trans hsp,hD5.trans h2,O7.grow s8,T7⟩⟩,fun h=>absurd rfl h⟩
 have call:∀(at':Bool),Tri Tryz.prog 35 #[pv p,.agg #[.string x.nm,x.l.v],.int .i64 x.fuel,.bool at'] V5 (PairP D5 (fun _=>False) d p r5 i x.nm x.l x.fuel at'):=fun at'=>by
  have H:=stepPair (at':=at') (nm:=x.nm) O5 T5 (hargs.sub sD) hF (by omega)
  rw[hsp]at H
  exact H
 refine⟨hp,hz,hlt,_,_,_,_,_,hrow,fun k1=>⟨fun _=>?_,fun h=>absurd k1 h⟩,fun k1=>⟨fun k2=>⟨fun h=>absurd h k1,fun _=>?_⟩,fun k2=>⟨fun k3=>?_,fun k3=>⟨fun k4=>?_,fun k4=>?_⟩⟩⟩⟩
 ·have k1:x.kind=1:=k1
  rw[show decide (x.kind=2)=false by rw[k1];rfl]
  refine Tri.mono (c10 PairP.one (call false)) ?_
  rintro _ V6 ⟨a1,a2,a3,a4,a5,c,rfl,H⟩
  refine⟨_,_,_,_,_,_,rfl,Tri.mono H ?_⟩
  rintro _ V7 ⟨r',rfl,s',hs',D',hD',O',T'⟩
  exact⟨_,_,_,_,_,_,_,_,_,_,_,_,_,_,_,_,_,rfl,fun _=>⟨fun _=>tail _ _ _ (hs'.trans hsp.symm) hD' O' T',fun h=>absurd rfl h⟩,fun h=>absurd ⟨rfl,rfl,rfl,rfl,rfl⟩ h⟩
 ·rw[decide_eq_true (show x.kind=2 from k2)]
  refine Tri.mono (c11 PairP.one (call true)) ?_
  rintro _ V6 ⟨a1,a2,a3,a4,a5,c,rfl,H⟩
  refine⟨_,_,_,_,_,_,rfl,Tri.mono H ?_⟩
  rintro _ V7 ⟨r',rfl,s',hs',D',hD',O',T'⟩
  exact⟨_,_,_,_,_,_,_,_,_,_,_,_,_,_,_,_,_,rfl,fun _=>⟨fun _=>tail _ _ _ (hs'.trans hsp.symm) hD' O' T',fun h=>absurd rfl h⟩,fun h=>absurd ⟨rfl,rfl,rfl,rfl,rfl⟩ h⟩
 ·have H:=undoPair (j:=x.n) O5 T5
  rw[hsp]at H
  refine Tri.mono H ?_
  rintro _ V6 ⟨c,rfl,r',U,s',hs',D',hD',O',T'⟩
  exact⟨_,rfl,U.call ⟨_,_,_,_,_,_,_,_,_,_,_,_,rfl,fun _=>tail _ _ _ (hs'.trans hsp.symm) hD' O' T',fun h=>absurd rfl h⟩⟩
 ·have H:=redoPair O5 T5
  rw[hsp]at H
  refine Tri.mono H ?_
  rintro _ V6 ⟨m6,c,rfl,r',U,⟨s',hs',D',hD',O',T'⟩,hm1,hm2⟩
  exact⟨_,_,rfl,U.call ⟨_,_,_,_,_,_,_,_,_,_,_,_,rfl,fun h0=>⟨fun _=>⟨fun _=>⟨fun _=>tail _ _ _ (hs'.trans hsp.symm) hD' O' T',fun h=>absurd rfl h⟩,fun h=>absurd h0 h⟩,fun h=>absurd (hm1 h0) h⟩,fun h0=>⟨fun h=>absurd h h0,fun _=>⟨fun _=>⟨fun _=>tail _ _ _ (hs'.trans hsp.symm) hD' O' T',fun h=>absurd rfl h⟩,fun h=>absurd (hm2 h0) h⟩⟩⟩⟩
 ·exact⟨hin,hJ _ _ _ (by omega) ⟨i+1,s,r5,_,_,_,D5,rfl,hil,rfl,hsp,hD5,O5,T5.more⟩⟩
end
end Go.Proofs
namespace Go.Proofs.YtginfholjbbgeaaGreatDoor
open Go Go.Sx Go.Proofs Go.ChangeShapes Go.WideShapes Go.ChangeAt Go.RowKit
section
variable{H:Type}{enc:TypeId×Value->H}{w:World}
theorem clStp:Tryz.prog.cellsOf 50=5:=by kernel_rfl
theorem rdStp{n:Nat}{cs:List Value}{x:DataW H×List MemPlace}(h:TR enc w n 50 cs=some x):∃f:Stp,Stp.row f=cs/\∃args:List Int,qAd (qBg w) f.l 1 (args.map qAo):=by
 obtain⟨hl,m,-,hs⟩:=qBi Tryz.underlying50 h
 obtain⟨a,d,e,f,g,rfl⟩:=len5 (hl.trans clStp)
 obtain⟨t,rfl,-⟩:=gI (at1 (hs 0 _ rfl) cl3 rfl)
 obtain⟨y,hy⟩:=hs 1 _ rfl
 change TR enc w m 48 (([Value.int .i64 t,d,e,f,g].drop 1).take (Tryz.prog.cellsOf 48))=some y at hy
 rw[clCl]at hy
 obtain⟨nm,l,xs,hx,hxo⟩:=rdCl hy
 simp only[List.drop_succ_cons,List.drop_zero,List.take_succ_cons,List.take_zero,List.cons.injEq,and_true]at hx
 obtain⟨rfl,rfl⟩:=hx
 obtain⟨fu,rfl,-⟩:=gI (at1 (hs 2 _ rfl) cl3 rfl)
 obtain⟨k,rfl,-⟩:=gI (at1 (hs 3 _ rfl) cl3 rfl)
 exact⟨⟨t,nm,l,fu,k⟩,rfl,xs,hxo⟩
end
set_option maxRecDepth 100000 in
theorem stps_of{H:Type}{enc:TypeId×Value->H}{W W':World}{r:Reach}{b0:Nat}{v:Value}{d0:DataW H}{p:List MemPlace}(hval:Value.okWide Tryz.prog W' r b0 35 v)(h:DataW.Trod enc Tryz.prog W 0 (fun _=>true) true 35 v d0 p):∃(l:Sl) (cs:List Stp),v=l.v/\qAd (qBg W) l 5 (cs.map Stp.row)/\∀x∈cs,∃args:List Int,qAd (qBg W) x.l 1 (args.map qAo):=by
 obtain⟨a,len,cap,rfl⟩:=okWide_slice Tryz.underlying35 hval
 obtain⟨fuel,h⟩:=h
 have h:∃y,TR enc W fuel 35 [.slice a len cap]=some y:=⟨_,h⟩
 exact gSl (row:=Stp.row) (ok:=fun c:Stp=>∃args:List Int,qAd (qBg W) c.l 1 (args.map qAo)) Tryz.underlying35 clStp (by decide) (fun _=>rfl) (fun m' _ cs x hx=>rdStp hx) h
end Go.Proofs.YtginfholjbbgeaaGreatDoor
