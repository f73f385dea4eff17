/- Part 19 of a proof of a law of this seat: no statement of the seat is proved here. -/
import Derived.Test.YtginfholjbbgeaaGreatDoorPart18
import Derived.Test.YtginfholjbbgeaaGreatDoorPart17
import Derived.Test.YtginfholjbbgeaaGreatDoorPart16
set_option linter.unusedVariables false
set_option linter.unusedSimpArgs false
namespace Go.Proofs
open Go Go.Sx
attribute [local irreducible] Go.Sx.Tri
section
variable{V0 V V':Mem}{p:Nat}{d d':Ds}{x:Gm}{log:List En}{ends logs:List Nat}{mems:List Gm}{Ok:Gm->Prop}{k F:Nat}{lg en gs ns l:Sl}{nd:List Nd}{nm:ByteArray}{args:List Int}{m m':Mm}{at':Bool}
theorem start_same(G:qAt d m)(G':qAt d' m')(SD:qEy d d')(hp:m'.plain=m.plain){F:Int}:qAJ d' m' nm args F=qAJ d m nm args F:=by
 unfold qAJ qCj
 rw[if_pos G,if_pos G',SD.cll,qIF hp]
def qGn(r:Rx Int):List Value:=qCG (outC r) (outV r) r.st.cm (qCp r.st.lg)
def StepP(V0:Mem)(p:Nat)(d d':Ds)(x:Gm)(log:List En)(ends:List Nat)(k F:Nat)(lg en:Sl)(nm:ByteArray)(args:List Int)(atm:Bool):Ending->Mem->Prop:=fun e V' =>
 (qAJ d (gmM x) nm args F≠0/\e=.returned (.tuple #[.agg (qCG 0 0 0 0).toArray,.int .i64 (qAJ d (gmM x) nm args F)])/\SA V0 V' p d' x log ends k lg en) ∨
 (qAJ d (gmM x) nm args F=0/\∃r:Rx Int,r=qCw d F (qEj d nm) args (gst x) /\
  ((2000<=k/\e=.returned (.tuple #[.agg (qCG 0 0 0 0).toArray,.int .i64 4])/\SA V0 V' p d' x log ends k lg en) ∨
  (k<2000/\atm=true/\outC r≠0/\e=.returned (.tuple #[.agg (qGn r).toArray,.int .i64 0])/\SA V0 V' p d' x log ends k lg en) ∨
  (k<2000/\¬(atm=true/\outC r≠0)/\e=.returned (.tuple #[.agg (qGn r).toArray,.int .i64 0])/\∃lg' en',SA V0 V' p d' (r.st.g,r.st.ns) (log.take (qAD ends k)++qBD d x (r.st.g,r.st.ns) r.st.lg) (ends.take k++[qAD ends k+(qBD d x (r.st.g,r.st.ns) r.st.lg).length]) ((k+1:Nat):Int) lg' en')))
structure New1 (V0:Mem) (V:Mem) (gs ns ls:Sl) (nd:List Nd) (lt:Sl) (s:St):Prop where
 lay:Lay V0 V gs ns ls nd s
 tr:Sx.Own V0 V 98 3 lt (s.lg.flatMap qFF)
theorem New1.move{lt ls:Sl}{s:St}(h:New1 V0 V gs ns ls nd lt s)(hs:V0.sub V')(hk:∀c o,V c=some o->V0 c=none->¬qJL V c->V' c=some o):New1 V0 V' gs ns ls nd lt s :=
 ⟨h.lay.move hs hk,Own.moveB h.tr hs fun g cur hg hc=>hk _ _ hc (Own.none0 h.tr hg) fun ha=>ha _ _ (.inr (.inr rfl)) hc⟩
theorem ents_succ{b a:Gm}{t:Int×Int×Int}{l:List (Int×Int×Int)}{i:Nat}(h:l[i]?=some t):qBD d b a (l.take (i+1))=qBD d b a (l.take i)++qIa d b a t:=by
 unfold qBD
 rw[List.take_add_one,h,List.flatMap_append];simp
theorem ents_le{b a:Gm}{l:List (Int×Int×Int)}{i:Nat}:(qBD d b a (l.take i)).length<=i:=by
 induction i with
 | zero=>simp[qBD]
 | succ i ih =>
  cases h:l[i]? with
  | none=>rw[List.take_add_one,h];simp only[Option.toList,List.append_nil];omega
  | some t =>
   rw[ents_succ h,List.length_append]
   have:(qIa d b a t).length<=1:=by
    unfold qIa
    by_cases h2:t.1=2
    ·rw[if_pos h2];exact Nat.le_refl _
    ·rw[if_neg h2]
     by_cases h3:t.1=3
     ·rw[if_pos h3];exact Nat.le_refl _
     ·rw[if_neg h3];exact Nat.zero_le _
   omega
theorem c35[Tab V0](S:SA V0 V p d' x log ends k lg en)(H:qGf Ok mems logs k log ends)(G:OkG d x)(SD:qEy d d')(hd':Ds.Ok V0 d')(ha:qAc V0 l 1 (args.map qAm))(hF:F<=4000)(hlog:log.length+4000*F+1<=2147483648)(hends:ends.length+1<=2147483648) :
  Tri Tryz.prog 35 #[pv p,.agg #[.string nm,l.v],.int .i64 F,.bool at'] V (StepP V0 p d d' x log ends k F lg en nm args at'):=by
 obtain⟨R,hR⟩:∃R,R=StepP V0 p d d' x log ends k F lg en nm args at':=⟨_,rfl⟩
 rw[<- hR]
 refine x35 (R:=R) ?_
 unfold w35
 obtain⟨p0,gs,ns,nd,Sa⟩:=S
 have s0:=Sa.lay.sub
 have hhe:=H.elen
 have hhl:=H.le
 have hek:k<=ends.length:=by omega
 have hlk:=H.bound hhl
 have hp:(⟨gs,x.1,ns,nd⟩:Mm).plain=x:=by unfold Mm.plain;rw[Sa.lay.eq];rfl
 have G1:qAt d ⟨gs,x.1,ns,nd⟩:=G.to hp
 have G2:qAt d' ⟨gs,x.1,ns,nd⟩:=G1.same SD
 have hm:Mm.Ok V ⟨gs,x.1,ns,nd⟩:=(qHn hd' Sa.lay (OkG.of G2 |> fun h=>(by have:=h;rw[hp]at this;exact this))).1
 have hst:qFd ⟨gs,x.1,ns,nd⟩=gst x:=by
  show (⟨x.1,nd.map fun n=>(n.ty,n.f),0,0,[]⟩:St)=⟨x.1,x.2,0,0,[]⟩
  rw[Sa.lay.eq];rfl
 have hsE:qAJ d' ⟨gs,x.1,ns,nd⟩ nm args F=qAJ d (gmM x) nm args F:=start_same G G2 SD (hp.trans (qFw x).symm)
 have hpl:∀i,qCw d' F i args (qFd ⟨gs,x.1,ns,nd⟩)=qCw d F i args (gst x):=fun i=>by rw[SD.play,hst]
 haveI:Tab V:=Tab.sub (V:=V0) inferInstance s0
 refine⟨fun h=>absurd h nn,fun _=>⟨nn,nn,_,_,_,_,_,_,_,_,Sa.read (j:=0) (n:=8) (by decide),nn,nn,gs,ns,Sa.read (j:=8) (n:=2) (by decide),Tri.mono (c62 (F:=F) (m:=⟨gs,x.1,ns,nd⟩) (hd'.sub s0) hm (ha.sub s0) hF) ?_⟩⟩
 rintro e V1 (⟨hc,s1,rfl⟩|⟨hc,r,gs1,ns1,ls1,nd1,hr,L,rfl⟩)
 ·refine⟨_,_,_,_,_,_,_,_,rfl,fun h=>absurd h hc,fun _=>?_⟩
  rw[hsE]at hc ⊢
  rw[hR]
  exact .inl ⟨hc,rfl,p0,gs,ns,nd,Sa.grow s1⟩
 have hc':=hc
 rw[hsE]at hc'
 rw[SD.idx,hpl]at hr
 have S1:=Sa.grow L.sub
 have fin:∀{e:Ending} {U:Mem},(2000<=k/\e=.returned (.tuple #[.agg (qCG 0 0 0 0).toArray,.int .i64 4])/\SA V0 U p d' x log ends k lg en) ∨
  (k<2000/\at'=true/\outC r≠0/\e=.returned (.tuple #[.agg (qGn r).toArray,.int .i64 0])/\SA V0 U p d' x log ends k lg en) ∨
  (k<2000/\¬(at'=true/\outC r≠0)/\e=.returned (.tuple #[.agg (qGn r).toArray,.int .i64 0])/\∃lg' en',SA V0 U p d' (r.st.g,r.st.ns) (log.take (qAD ends k)++qBD d x (r.st.g,r.st.ns) r.st.lg) (ends.take k++[qAD ends k+(qBD d x (r.st.g,r.st.ns) r.st.lg).length]) ((k+1:Nat):Int) lg' en')->R e U:=fun {e U} h=>by
  rw[hR];exact .inr ⟨hc',r,hr,h⟩
 refine⟨_,_,_,_,_,_,_,_,rfl,fun _=>⟨nn,nn,_,S1.read (j:=12) (n:=1) (by decide),fun hk=>fin (.inl ⟨by have hk:(2000:Int)<=(k:Int):=hk;omega,rfl,p0,gs,ns,nd,S1⟩),fun hk=>?_⟩,fun h=>absurd rfl h⟩
 have hk:k<2000:=by have hk:¬(2000:Int)<=(k:Int):=hk;omega
 refine(fun(key:¬(at'=true/\outC r≠0)->_)=>⟨fun h1=>⟨fun h2=>key fun h=>h.2 h2,fun h2=>fin (.inr (.inl ⟨hk,h1,h2,rfl,p0,gs,ns,nd,S1⟩))⟩,fun h1=>key fun h=>h1 h.1⟩) fun hat=>?_
 -- the call, once more
 haveI:Tab V1:=Tab.sub (V:=V) inferInstance L.sub
 have s01:=s0.trans L.sub
 refine⟨nn,nn,_,_,_,_,_,_,_,_,S1.read (j:=0) (n:=8) (by decide),nn,nn,gs,ns,S1.read (j:=8) (n:=2) (by decide),Tri.mono (c29 (F:=F) (m:=⟨gs,x.1,ns,nd⟩) (hd'.sub s01) (hm.sub L.sub) (ha.sub s01) hF) ?_⟩
 rintro e V2 (⟨hc2,-⟩|⟨-,r2,lt,hr2,oT,rfl⟩)
 ·exact absurd hc hc2
 obtain rfl:r2=r:=by rw[hr2,SD.idx,hpl,hr]
 have hcl:qDq d ⟨gs,x.1,ns,nd⟩ nm args=0:=by rw[<- SD.cll];exact(qIj hc).2
 have hdid:=did_play F G1 hcl (r:=r2) (by rw[hst,hr])
 rw[hp]at hdid
 have hok:=hdid.ok
 have hGy:qAt d' r2.st.mm:=qAt.same (m:=r2.st.mm) hok SD
 have Gx:OkG d' x:=by have:=OkG.of G2;rw[hp]at this;exact this
 have S2:=S1.grow oT.sub
 have N2:New1 V0 V2 gs1 ns1 ls1 nd1 lt r2.st:=⟨(L.narrow s0).grow oT.sub,oT.narrow s01⟩
 have far:∀c,(Blk gs1 c∨∃n∈nd1,Blk n.sl c)->V c=none:=by
  rintro c (h|⟨n,hn,h⟩)
  ·exact Own.none0 L.glob h
  ·exact Own.none0 (L.fld n hn) h
 have enV:∀c,Blk en c->V c≠none:=fun c hc=>by obtain⟨cur,h⟩:=Own.some Sa.eno hc;rw[h];simp
 have capE:k<=en.c:=by
  have R1:=Sa.eno.rows qDh (by decide)
  have:=R1.n_eq;have:=R1.cap;omega
 have capL:qAD ends k<=lg.c:=by
  have R1:=Sa.lgo.rows qCA (by decide)
  have:=R1.n_eq;have:=R1.cap;omega
 refine⟨_,_,rfl,nn,nn,en,S2.read (j:=11) (n:=1) (by decide),nn,nn,_,S2.read (j:=12) (n:=1) (by decide),⟨by omega,by omega,by omega⟩,nn,nn,(SAt.cutEn S2 p0 hek fun V3 S3 k3=>?_).2⟩
 have N3:New1 V0 V3 gs1 ns1 ls1 nd1 lt r2.st:=N2.move S3.lay.sub fun c o hc _ hna=>by rw[k3 c fun e=>hna (by rw[e];exact S2.alien)];exact hc
 have hlt:(ends.take k).length=k:=by rw[List.length_take];omega
 have hea:qAD (ends.take k) k=qAD ends k:=by
  cases k with
  | zero=>rfl
  | succ j =>
   show (ends.take (j+1)).getD j 0=ends.getD j 0
   rw[List.getD_eq_getElem?_getD,List.getD_eq_getElem?_getD,List.getElem?_take,if_pos (by omega)]
 refine⟨nn,nn,lg,S3.read (j:=10) (n:=1) (by decide),(c20 (k:=k) (ends:=ends.take k) ⟨p0,gs,ns,nd,S3⟩ (by omega)).call ⟨_,rfl,?_⟩⟩
 rw[hea]
 refine⟨qAS S3.at_ 10 0 1 (by simp[qHT]),nn,nn,⟨by omega,by omega,by omega⟩,nn,nn,(SAt.cutLg S3 p0 hlk fun V5 S5 k5=>?_).2⟩
 have N5:New1 V0 V5 gs1 ns1 ls1 nd1 lt r2.st:=N3.move S5.lay.sub fun c o hc _ hna=>by rw[k5 c fun e=>hna (by rw[e];exact S3.alien)];exact hc
 have hltl:(log.take (qAD ends k)).length=qAD ends k:=by rw[List.length_take];omega
 have hln:=hdid.len
 refine qHX r2.st.lg.length (fun i V6=>∃lg6,SAt V0 V6 p d' x (log.take (qAD ends k)++qBD d x (r2.st.g,r2.st.ns) (r2.st.lg.take i)) (ends.take k) k lg6 ⟨en.p,k,en.c⟩ gs ns nd/\New1 V0 V6 gs1 ns1 ls1 nd1 lt r2.st) ⟨⟨lg.p,qAD ends k,lg.c⟩,by
  have e:qBD d x (r2.st.g,r2.st.ns) (r2.st.lg.take 0)=[]:=rfl
  rw[e,List.append_nil];exact S5,N5⟩ ?_
 rintro i V6 J hi ⟨lg6,S6,N6⟩ hJ
 have TR:=N6.tr.rows (row:=qFF) (fun _=>rfl) (by decide)
 have hle:(qBD d x (r2.st.g,r2.st.ns) (r2.st.lg.take i)).length<=i:=ents_le
 have hfit:(log.take (qAD ends k)++qBD d x (r2.st.g,r2.st.ns) (r2.st.lg.take i)).length+1<=2147483648∨i=r2.st.lg.length:=by
  rw[List.length_append,hltl];omega
 have moveN:∀{V7:Mem},V0.sub V7->(∀c o,V6 c=some o->c≠p->¬Blk lg6 c->V7 c=some o)->New1 V0 V7 gs1 ns1 ls1 nd1 lt r2.st:=fun hs hk=>N6.move hs fun c o hc _ hna=>hk c o hc (fun e=>hna (by rw[e];exact S6.alien)) fun hb=>hna (by
  obtain⟨cur,h⟩:=Own.some S6.lgo hb
  exact qCg h qDt.2.2)
 refine⟨fun hlt6=>?_,fun hge=>?_⟩
 ·obtain⟨t,htm,ht,-,hil,hp6,hz6,hrow⟩:=TR.get hlt6
  have hes:=ents_succ (d:=d) (b:=x) (a:=(r2.st.g,r2.st.ns)) ht
  have next:∀{V7:Mem} {s':Sl} {ex:List En},qIa d x (r2.st.g,r2.st.ns) t=ex->SAt V0 V7 p d' x (log.take (qAD ends k)++qBD d x (r2.st.g,r2.st.ns) (r2.st.lg.take i)++ex) (ends.take k) k s' ⟨en.p,k,en.c⟩ gs ns nd->New1 V0 V7 gs1 ns1 ls1 nd1 lt r2.st->IR ((i:Int)+1)/\J [.int .i64 ((i:Int)+1)] V7:=fun {V7 s' ex} he S7 N7=>⟨TR.succ hlt6,hJ hil _ ⟨s',by rw[hes,he,<- List.append_assoc];exact S7,N7⟩⟩
  have hf:(log.take (qAD ends k)++qBD d x (r2.st.g,r2.st.ns) (r2.st.lg.take i)).length+1<=2147483648:=by rcases hfit with h|h <;> omega
  have rd:∀{U:Mem},V6.sub U->U.rowp (qAa (sa p) 10) 0 1=some [lg6.v]:=fun hs=>qAS (hs _ _ S6.at_) 10 0 1 (by simp[qHT])
  have hkind:=hdid.tra.at_ t htm
  obtain⟨t1,t2,t3⟩:=t
  simp only at hkind
  refine⟨hp6,hz6,hlt6,t1,t2,t3,hrow,fun h2=>?_,fun h2=>⟨fun h3=>?_,fun h3=>?_⟩⟩
  ·have h2:t1=2:=h2
   rcases hkind with h|⟨-,n,j,rfl,rfl,hin,hor⟩|⟨h,-⟩
   ·omega
   ·obtain⟨hm6,hp6'⟩:=S6.mm hd' Gx
    obtain⟨hmN,hpN⟩:=qHn hd' N6.lay hGy
    refine⟨nn,nn,lg6,S6.read (j:=10) (n:=1) (by decide),nn,nn,gs,ns,S6.read (j:=8) (n:=2) (by decide),(c63 (m:=⟨gs,x.1,ns,nd⟩) hm6 hp6' hor).call ⟨_,rfl,rd (Mem.sub.refl _),nn,nn,(c63 (m:=⟨gs1,r2.st.g,ns1,nd1⟩) hmN hpN (.inr hin)).call ⟨_,rfl,rd (Mem.sub.refl _),nn,nn,rd (Mem.sub.refl _),nn,nn,fun tb htb=>?_⟩⟩⟩
    refine S6.addLg p0 (e:=⟨n,j,qGC x n j,qGC (r2.st.g,r2.st.ns) n j,false,0,0⟩) htb rfl rfl hf fun s' V' hst=>⟨s',rfl,nn,nn,hst fun V7 S7 k7=>next ?_ S7 (moveN S7.lay.sub k7)⟩
    unfold qIa
    rw[if_pos h2]
    simp only[Int.toNat_natCast]
   ·omega
  ·have h3:t1=3:=h3
   rcases hkind with h|⟨h,-⟩|⟨-,n,f,rfl,hy⟩
   ·omega
   ·omega
   ·obtain⟨ty0,ty1⟩:=OkG.type (d:=d') (y:=(r2.st.g,r2.st.ns)) hGy hy
    obtain⟨j,rfl⟩:∃j:Nat,t3=j:=⟨t3.toNat,by omega⟩
    have htn:=hd'.types.n_eq
    obtain⟨tt,httm,htt,-,-,hp7,hz7,hrow7⟩:=(hd'.types.sub S6.lay.sub).get (i:=j) (by omega)
    have hfo:qAn d (j:Int)=tt.fields:=by rw[<- SD.fields];exact qBt htt rfl
    have hfn:=(hd'.typesOk tt httm).fields.n_eq
    refine⟨nn,nn,lg6,S6.read (j:=10) (n:=1) (by decide),nn,nn,pnn,d'.ts,S6.read (j:=1) (n:=1) (by decide),hp7,hz7,by omega,qAe hp7,_,_,hrow7,rd (Mem.sub.refl _),nn,nn,fun tb htb=>?_⟩
    refine S6.addLg p0 (e:=⟨(n:Int)+1,0,0,0,true,j,tt.fs.n⟩) htb rfl rfl hf fun s' V' hst=>⟨s',rfl,nn,nn,hst fun V7 S7 k7=>next ?_ S7 (moveN S7.lay.sub k7)⟩
    unfold qIa
    rw[if_neg (by show ¬t1=2;omega),if_pos h3]
    simp only[hfo,hfn]
  ·have h2:¬t1=2:=h2
   have h3:¬t1=3:=h3
   refine next (ex:=[]) ?_ (by rw[List.append_nil];exact S6) N6
   unfold qIa
   rw[if_neg h2,if_neg h3]
 ·have hd:=(TR.done hge).2
  rw[List.take_of_length_le hd]at S6 hle
  have hlgn:=(S6.lgo.rows qCA (by decide)).n_eq
  rw[List.length_append,hltl]at hlgn
  refine⟨nn,nn,⟨en.p,k,en.c⟩,S6.read (j:=11) (n:=1) (by decide),nn,nn,lg6,S6.read (j:=10) (n:=1) (by decide),qAS S6.at_ 11 0 1 (by simp[qHT]),nn,nn,fun tb htb=>?_⟩
  rw[hlgn]
  refine S6.addEn p0 (e:=qAD ends k+(qBD d x (r2.st.g,r2.st.ns) r2.st.lg).length) htb rfl rfl (by omega) fun s' V' hst=>⟨s',rfl,nn,nn,hst fun V7 S7 k7 h7=>⟨nn,nn,_,S7.read (j:=12) (n:=1) (by decide),⟨by omega,by omega⟩,nn,nn,?_⟩⟩
  refine StT.at2 (off:=12) S7.at_ (by simp[qHT]) ⟨nn,nn,?_⟩
  have S8:=S7.put p0 (k':=(k:Int)+1) (c:=((qHT d' gs ns lg6 s' k).toArray.toList.take 12++[Value.int .i64 ((k:Int)+1)]++(qHT d' gs ns lg6 s' k).toArray.toList.drop (12+[Value.int .i64 ((k:Int)+1)].length)).toArray) rfl
  have np:∀{g:Nat} {cur:Array Value} {e:Nat},V6 g=some (.cells cur e (0,0))->(e=3∨e=104∨e=98)->g≠p:=fun {g cur e} hg he e'=>S6.alien cur e he (by rw[<- e'];exact hg)
  have L7:Lay V0 V7 gs1 ns1 qAv nd1 (gst (r2.st.g,r2.st.ns)):=⟨Own.moveB N6.lay.glob S7.lay.sub fun g cur hg hc=>k7 g _ hc (np hc (.inl rfl)) fun hb=>enV g hb (far g (.inl hg)),Own.moveB N6.lay.nodes S7.lay.sub fun g cur hg hc=>k7 g _ hc (np hc (.inr (.inl rfl))) (S6.eno.apart fun cur' h'=>by
   rw[hc]at h'
   simp only[Option.some.injEq,Obj.cells.injEq]at h'
   exact absurd h'.2.1 (by decide)),Own.nil S7.lay.sub _ _,fun n hn=>Own.moveB (N6.lay.fld n hn) S7.lay.sub fun g cur hg hc=>k7 g _ hc (np hc (.inl rfl)) fun hb=>enV g hb (far g (.inr ⟨n,hn,hg⟩)),N6.lay.eq,N6.lay.gf,N6.lay.ff⟩
  have L8:=L7.put S7.alien p0 (.cells ((qHT d' gs ns lg6 s' k).toArray.toList.take 12++[Value.int .i64 ((k:Int)+1)]++(qHT d' gs ns lg6 s' k).toArray.toList.drop (12+[Value.int .i64 ((k:Int)+1)].length)).toArray 88 (0,0))
  have away:∀{s:Sl} {vs:List Value},Sx.Own V0 V6 3 1 s vs->(∀c,Blk s c->V c=none)->∀c,Blk s' c->¬Blk s c:=fun {s vs} o h c hc hs=>by
   rcases h7 c hc with h1|h1
   ·exact enV c h1 (h c hs)
   ·obtain⟨cur,h2⟩:=Own.some o hs
    rw[h1]at h2;cases h2
  refine StT.at2 (off:=8) S8.at_ (by simp[qHT]) (fin (.inr (.inr ⟨hk,hat,rfl,lg6,s',p0,gs1,ns1,nd1,?_⟩)))
  exact⟨by erw [Mem.set_same];rfl,L8.put S8.alien p0 _,S8.lgo.put S8.notLg p0 _,S8.eno.put (S8.eno.apart fun cur=>S8.alien cur _ (.inl rfl)) p0 _,away N6.lay.glob fun c hc=>far c (.inl hc),fun n hn=>away (N6.lay.fld n hn) fun c hc=>far c (.inr ⟨n,hn,hc⟩)⟩
end
section
variable{V V0:Mem}{d:Ds}{m:Mm}{nm:ByteArray}{args:List Int}{l:Sl}
end
section
variable{V0 V V':Mem}{p:Nat}{d d':Ds}{x:Gm}{log:List En}{ends logs:List Nat}{mems:List Gm}{Ok:Gm->Prop}{k F:Nat}{lg en gs ns l:Sl}{nd:List Nd}{nm:ByteArray}{args:List Int}{m m':Mm}{at':Bool}
theorem cll_not1:qDq d m nm args≠1:=by
 unfold qDq
 repeat' split
 all_goals decide
theorem given_zero(G:qAt d m):qCj d m ((0:Nat):Int)=0:=by
 unfold qCj
 rw[if_pos G];rfl
def NewP(V:Mem)(d:Ds)(m:Mm):Ending->Mem->Prop:=fun e V' =>
 (¬qAt d m/\V.sub V'/\e=.returned (.tuple #[.pointer none,.int .i64 1])) ∨
 (qAt d m/\∃p d' W,e=.returned (.tuple #[pv p,.int .i64 0])/\V.sub W/\Ds.Ok W d'/\qEy d d'/\SA W V' p d' m.plain [] [] ((0:Nat):Int) qAv qAv)
theorem c8[Tab V](hd:Ds.Ok V d)(hm:Mm.Ok V m):Tri Tryz.prog 8 #[d.v,m.v] V (NewP V d m):=by
 refine x8 (R:=NewP V d m) ?_
 unfold w8
 refine Tri.mono (c29 (F:=0) (nm:=qAp []) (args:=[]) (l:=qAv) hd hm qAc.nil (by decide)) fun e V1 h=>?_
 have key:∃ls:Sl,e=.returned (.tuple #[ls.v,.int .i64 (qAJ d m (qAp []) [] ((0:Nat):Int))])/\V.sub V1:=by
  rcases h with⟨hc,hs,rfl⟩|⟨hc,r,ls,-,o,rfl⟩
  ·exact⟨qAv,rfl,hs⟩
  ·exact⟨ls,by rw[hc],o.sub⟩
 obtain⟨ls,rfl,s1⟩:=key
 haveI:Tab V1:=Tab.sub (V:=V) inferInstance s1
 refine⟨ls,_,rfl,fun h1=>.inl ⟨fun G=>?_,s1,rfl⟩,fun h1=>?_⟩
 ·have h1:qAJ d m (qAp []) [] ((0:Nat):Int)=1:=h1
  unfold qAJ at h1
  rw[if_pos (given_zero G)]at h1
  exact cll_not1 h1
 ·have h1:¬qAJ d m (qAp []) [] ((0:Nat):Int)=1:=h1
  have G:qAt d m:=by
   refine Classical.byContradiction fun hG=>h1 ?_
   unfold qAJ qCj
   rw[if_neg hG];rfl
  refine(c30 (hd.sub s1) (hm.sub s1)).call ⟨_,rfl,fun _=>?_,fun h=>absurd G.mem h⟩
  refine Tri.mono (c31 (hd.sub s1) G.valid) ?_
  rintro _ V3 ⟨d',rfl,s3,hd',SD⟩
  obtain⟨l1,l2,l3⟩:=good_lens G
  have s03:=s1.trans s3
  refine⟨d'.name,d'.ts,d'.gs,d'.ps,d'.ms,d'.is,d'.qs,d'.bs,rfl,Tri.mono (c32 (hm.sub s03) l1 l2 l3) ?_⟩
  rintro _ V4 ⟨gs,ns,nd,rfl,L⟩
  refine⟨gs,ns,rfl,fun b hb=>.inr ⟨G,b,d',V3,rfl,s03,hd',SD,free L.sub hb,gs,ns,nd,?_⟩⟩
  have s5:=Mem.sub_new hb (.cells (qHT d' gs ns qAv qAv ((0:Nat):Int)).toArray 88 (0,0))
  exact⟨Mem.set_same _ _ _,L.grow s5,Own.nil (L.sub.trans s5) _ _,Own.nil (L.sub.trans s5) _ _,fun c hc=>absurd rfl hc.1,fun n hn c hc=>absurd rfl hc.1⟩
def OneP(P:Ending->Mem->Prop):Prop:=∀e V,P e V->∃a b c d f g:Int,e=.returned (.tuple #[.agg #[.int .i64 a,.int .i64 b,.int .i64 c,.int .i64 d,.int .i64 f],.int .i64 g])
theorem c10{P:Ending->Mem->Prop}(h1:OneP P){q:Option Addr}{F:Int}(H:Tri Tryz.prog 35 #[.pointer q,.agg #[.string nm,l.v],.int .i64 F,.bool false] V P):Tri Tryz.prog 10 #[.pointer q,.agg #[.string nm,l.v],.int .i64 F] V P:=by
 refine x10 (R:=P) ?_
 unfold w10
 refine Tri.mono H fun e V1 h=>?_
 obtain⟨a,b,c,d,f,g,rfl⟩:=h1 e V1 h
 exact⟨_,_,_,_,_,_,rfl,h⟩
theorem c11{P:Ending->Mem->Prop}(h1:OneP P){q:Option Addr}{F:Int}(H:Tri Tryz.prog 35 #[.pointer q,.agg #[.string nm,l.v],.int .i64 F,.bool true] V P):Tri Tryz.prog 11 #[.pointer q,.agg #[.string nm,l.v],.int .i64 F] V P:=by
 refine x11 (R:=P) ?_
 unfold w11
 refine Tri.mono H fun e V1 h=>?_
 obtain⟨a,b,c,d,f,g,rfl⟩:=h1 e V1 h
 exact⟨_,_,_,_,_,_,rfl,h⟩
end
section
variable{W V V':Mem}{p:Nat}{d:Ds}{x:Gm}{log:List En}{ends:List Nat}{k:Int}{lg en:Sl}
theorem SA.after(S:SA W V p d x log ends k lg en)(hs:V.sub V'):∃W',W.sub W'/\W'.sub V'/\SA W' V' p d x log ends k lg en/\∀b o,V b=none->V' b=some o->W' b=some o:=by
 obtain⟨p0,gs,ns,nd,S⟩:=S
 obtain⟨M,hM⟩:∃M:Nat->Prop,M=fun c=>c=p∨Blk gs c∨Blk ns c∨Blk lg c∨Blk en c∨∃n∈nd,Blk n.sl c:=⟨_,rfl⟩
 have own:∀{e sz:Nat} {s:Sl} {vs:List Value},Sx.Own W V e sz s vs->∀c,Blk s c->V c≠none/\W c=none:=fun {e sz s vs} o c hc=>⟨by obtain⟨cur,h⟩:=Own.some o hc;rw[h];simp,Own.none0 o hc⟩
 have hin:∀c,M c->V c≠none/\W c=none:=fun c hc=>by
  rw[hM]at hc
  rcases hc with rfl|h|h|h|h|⟨n,hn,h⟩
  ·exact⟨by rw[S.at_];simp,p0⟩
  ·exact own S.lay.glob c h
  ·exact own S.lay.nodes c h
  ·exact own S.lgo c h
  ·exact own S.eno c h
  ·exact own (S.lay.fld n hn) c h
 have go:∀{e sz:Nat} {s:Sl} {vs:List Value},(∀c,Blk s c->M c)->Sx.Own W V e sz s vs->Sx.Own (Mem.minus V' M) V' e sz s vs:=fun {e sz s vs} hm h=>⟨qBF,h.len,by
  rcases h.cases0 with h1|⟨hc,g,cur,h1,h2,h3,h4⟩
  ·exact .inl h1
  ·exact .inr ⟨g,cur,h1,qCd (hm g ⟨hc,h1⟩),hs _ _ h3,h4⟩⟩
 refine⟨Mem.minus V' M,fun b o hb=>?_,qBF,⟨qCd (by rw[hM];exact .inl rfl),gs,ns,nd,hs _ _ S.at_,⟨go (fun c h=>by rw[hM];exact .inr (.inl h)) S.lay.glob,go (fun c h=>by rw[hM];exact .inr (.inr (.inl h))) S.lay.nodes,Own.nil qBF _ _,fun n hn=>go (fun c h=>by rw[hM];exact .inr (.inr (.inr (.inr (.inr ⟨n,hn,h⟩))))) (S.lay.fld n hn),S.lay.eq,S.lay.gf,S.lay.ff⟩,go (fun c h=>by rw[hM];exact .inr (.inr (.inr (.inl h)))) S.lgo,go (fun c h=>by rw[hM];exact .inr (.inr (.inr (.inr (.inl h))))) S.eno,S.eg,S.ef⟩,fun b o hb hb'=>?_⟩
 ·rw[qAR fun hm=>by rw[(hin b hm).2]at hb;cases hb];exact hs _ _ (S.lay.sub _ _ hb)
 ·rw[qAR fun hm=>(hin b hm).1 hb];exact hb'
end
def rbS(l1 l2:Sl):S:=.mk 1 awN l2 [awE l1] qAv [] qAv []
def rbP(ps bs l1 l2:Sl):Pr:=⟨qAp [97,100,100],ps,[⟨awK,awI⟩],qAp [],qAv,[],bs,[rbS l1 l2]⟩
def rbD(gs pr ps bs l1 l2:Sl):Ds:=⟨qAp [115,117,109],qAv,[],gs,[⟨awN,awI⟩],pr,[rbP ps bs l1 l2],qAv,[],qAv,[],qAv,[],qAv,[]⟩
def adds:ByteArray:=qAp [97,100,100]
section
variable{gs pr ps bs l1 l2:Sl}
theorem rb_valid:qAI (rbD gs pr ps bs l1 l2)=true:=by kernel_rfl
theorem rb_chk:qHK (rbD gs pr ps bs l1 l2)=none:=by kernel_rfl
theorem rb_mem1:qBI (rbD gs pr ps bs l1 l2) (gmM ([1],[]))=true:=by kernel_rfl
theorem rb_mem3:qBI (rbD gs pr ps bs l1 l2) (gmM ([3],[]))=true:=by kernel_rfl
theorem rb_cll1:qDq (rbD gs pr ps bs l1 l2) (gmM ([1],[])) adds [2]=0:=by kernel_rfl
theorem rb_cll3:qDq (rbD gs pr ps bs l1 l2) (gmM ([3],[])) adds [3]=0:=by kernel_rfl
theorem rb_idx:qEj (rbD gs pr ps bs l1 l2) adds=0:=by kernel_rfl
theorem rb_run1:(fun r:Rx Int=>(outC r,r.st.g,r.st.ns)) (qCw (rbD gs pr ps bs l1 l2) 5 0 [2] (gst ([1],[])))=(0,[3],[]):=by kernel_rfl
theorem rb_run3:(fun r:Rx Int=>(outC r,r.st.g,r.st.ns)) (qCw (rbD gs pr ps bs l1 l2) 5 0 [3] (gst ([3],[])))=(0,[6],[]):=by kernel_rfl
theorem c24{V:Mem}:Tri Tryz.prog 24 #[] V fun e V'=>∃gs pr ps bs l1 l2,e=.returned (rbD gs pr ps bs l1 l2).v/\V.sub V'/\Ds.Ok V' (rbD gs pr ps bs l1 l2):=by
 refine x24 ?_
 unfold w24
 intro b0 h0 b1 h1 b2 h2 b3 h3 b4 h4 b5 h5
 have s0:=fun o=>Mem.sub_new h0 o
 have s1:=fun o=>Mem.sub_new h1 o
 have s2:=fun o=>Mem.sub_new h2 o
 have s3:=fun o=>Mem.sub_new h3 o
 have s4:=fun o=>Mem.sub_new h4 o
 have s5:=fun o=>Mem.sub_new h5 o
 refine⟨qIH b0 1,qIH b5 1,qIH b1 1,qIH b4 1,qIH b2 2,qIH b3 1,rfl,(s0 _).trans ((s1 _).trans ((s2 _).trans ((s3 _).trans ((s4 _).trans (s5 _))))),?_⟩
 have k0:=((s1 _).trans ((s2 _).trans ((s3 _).trans ((s4 _).trans (s5 (.cells #[.string adds,.slice (sa b1) 1 1,.string (qAp []),.slice none 0 0,.slice (sa b4) 1 1] 121 (0,0))))))) _ _ mss
 have k1:=((s2 _).trans ((s3 _).trans ((s4 _).trans (s5 (.cells #[.string adds,.slice (sa b1) 1 1,.string (qAp []),.slice none 0 0,.slice (sa b4) 1 1] 121 (0,0)))))) _ _ mss
 have k2:=((s3 _).trans ((s4 _).trans (s5 (.cells #[.string adds,.slice (sa b1) 1 1,.string (qAp []),.slice none 0 0,.slice (sa b4) 1 1] 121 (0,0))))) _ _ mss
 have k3:=((s4 _).trans (s5 (.cells #[.string adds,.slice (sa b1) 1 1,.string (qAp []),.slice none 0 0,.slice (sa b4) 1 1] 121 (0,0)))) _ _ mss
 have k4:=(s5 (.cells #[.string adds,.slice (sa b1) 1 1,.string (qAp []),.slice none 0 0,.slice (sa b4) 1 1] 121 (0,0))) _ _ mss
 have hE:E.Ok _ (awE (qIH b2 2)):=.mk (qAc.cells (row:=E.row) (xs:=[.mk 4 0 awN qAv [],.mk 4 0 awK qAv []]) k2 rfl (fun _=>rfl) rfl (by simp)) (fun x hx=>by
  simp only[List.mem_cons,List.not_mem_nil,or_false]at hx
  rcases hx with rfl|rfl <;> exact nameOk) (by decide) (by decide)
 have hS:S.Ok _ (rbS (qIH b2 2) (qIH b3 1)):=.mk (qAc.cells (row:=E.row) (xs:=[awE (qIH b2 2)]) k3 rfl (fun _=>rfl) rfl (by simp)) (fun x hx=>by
  simp only[List.mem_cons,List.not_mem_nil,or_false]at hx
  subst hx;exact hE) qAc.nil (by simp) qAc.nil (by simp) (by decide)
 exact⟨qAc.nil,by simp[rbD],qAc.cells (row:=Fld.row) (xs:=[⟨awN,awI⟩]) k0 rfl (fun _=>rfl) rfl (by simp),qAc.cells (row:=Pr.row) (xs:=[rbP (qIH b1 1) (qIH b4 1) (qIH b2 2) (qIH b3 1)]) mss rfl (fun _=>rfl) rfl (by simp),fun x hx=>by
  simp only[rbD,List.mem_cons,List.not_mem_nil,or_false]at hx
  subst hx
  exact⟨qAc.cells (row:=Fld.row) (xs:=[⟨awK,awI⟩]) k1 rfl (fun _=>rfl) rfl (by simp),qAc.nil,qAc.cells (row:=S.row) (xs:=[rbS (qIH b2 2) (qIH b3 1)]) k4 rfl (fun x=>by rw[S.row_eq];rfl) rfl (by simp),fun y hy=>by
   simp only[rbP,List.mem_cons,List.not_mem_nil,or_false]at hy
   subst hy;exact hS⟩,qAc.nil,by simp[rbD],qAc.nil,by simp[rbD],qAc.nil,by simp[rbD],qAc.nil,by simp[rbD]⟩
end
section
variable{W V:Mem}{p:Nat}{d d':Ds}{x:Gm}{log:List En}{ends logs:List Nat}{mems:List Gm}{k F:Nat}{lg en l:Sl}{nm:ByteArray}{args:List Int}{at':Bool}{r:Rx Int}
def MadeP(W:Mem)(p:Nat)(d d':Ds)(log:List En)(ends logs:List Nat)(mems:List Gm)(k F:Nat)(r:Rx Int):Ending->Mem->Prop:=fun e V'=>e=.returned (.tuple #[.agg (qGn r).toArray,.int .i64 0])/\∃lg' en' es,SA W V' p d' (r.st.g,r.st.ns) (log.take (qAD ends k)++es) (ends.take k++[qAD ends k+es.length]) ((k+1:Nat):Int) lg' en' /\
 qGf (OkG d) (mems.take (k+1)++[(r.st.g,r.st.ns)]) (logs.take k++[es.length]) (k+1) (log.take (qAD ends k)++es) (ends.take k++[qAD ends k+es.length])/\es.length<=4000*F/\es.length=(r.st.lg.filter fun t=>decide (t.1≠1)).length
theorem MadeP.one:OneP (MadeP W p d d' log ends logs mems k F r):=by
 rintro e V' ⟨rfl,-⟩
 exact⟨_,_,_,_,_,_,rfl⟩
theorem made_of(H:qGf (OkG d) mems logs k log ends)(hx:mems[k]?=some x)(hc:qAJ d (gmM x) nm args F=0)(hr:r=qCw d F (qEj d nm) args (gst x)) :
  qGf (OkG d) (mems.take (k+1)++[(r.st.g,r.st.ns)]) (logs.take k++[(qBD d x (r.st.g,r.st.ns) r.st.lg).length]) (k+1) (log.take (qAD ends k)++qBD d x (r.st.g,r.st.ns) r.st.lg) (ends.take k++[qAD ends k+(qBD d x (r.st.g,r.st.ns) r.st.lg).length])/\(qBD d x (r.st.g,r.st.ns) r.st.lg).length<=4000*F/\(qBD d x (r.st.g,r.st.ns) r.st.lg).length=(r.st.lg.filter fun t=>decide (t.1≠1)).length:=by
 obtain⟨G,hcl⟩:=qIj hc
 have hst:qFd (gmM x)=gst x:=by
  unfold qFd gmM gst
  simp[Function.comp_def]
 have hd:=did_play F G hcl (r:=r) (by rw[hst,hr])
 rw[qFw]at hd
 have hl:=hd.len
 have h1:=ents_le (d:=d) (b:=x) (a:=(r.st.g,r.st.ns)) (l:=r.st.lg) (i:=r.st.lg.length)
 rw[List.take_of_length_le (Nat.le_refl _)]at h1
 exact⟨H.step hx hd.way hd.ok,by omega,ents_len hd.tra _ _⟩
theorem stepM[Tab W](S:SA W V p d' x log ends k lg en)(H:qGf (OkG d) mems logs k log ends)(hx:mems[k]?=some x)(SD:qEy d d')(hd':Ds.Ok W d')(ha:qAc W l 1 (args.map qAm))(hF:F<=4000)(hlog:log.length+4000*F+1<=2147483648)(hends:ends.length+1<=2147483648)(hk:k<2000)(hc:qAJ d (gmM x) nm args F=0)(hr:r=qCw d F (qEj d nm) args (gst x))(hat:¬(at'=true/\outC r≠0)) :
  Tri Tryz.prog 35 #[pv p,.agg #[.string nm,l.v],.int .i64 F,.bool at'] V (MadeP W p d d' log ends logs mems k F r):=by
 have G:OkG d x:=by
  obtain⟨hl,e⟩:=List.getElem?_eq_some_iff.1 hx
  exact H.ok x (e ▸ List.getElem_mem hl)
 refine Tri.mono (c35 S H G SD hd' ha hF hlog hends) ?_
 rintro e V' (⟨h,-⟩|⟨-,r',hr',⟨h,-⟩|⟨-,h1,h2,-⟩|⟨-,-,rfl,lg',en',S'⟩⟩)
 ·exact absurd hc h
 ·omega
 ·rw[hr',<- hr]at h2
  exact absurd ⟨h1,h2⟩ hat
 ·obtain rfl:r'=r:=by rw[hr',hr]
  obtain⟨a,b,c⟩:=made_of H hx hc hr'
  exact⟨rfl,lg',en',_,S',a,b,c⟩
end
section
variable{V:Mem}
theorem qJa{gs pr ps bs l1 l2:Sl}:qAt (rbD gs pr ps bs l1 l2) (gmM ([1],[])):=⟨rb_valid,rb_chk,rb_mem1⟩
theorem rb_good3{gs pr ps bs l1 l2:Sl}:qAt (rbD gs pr ps bs l1 l2) (gmM ([3],[])):=⟨rb_valid,rb_chk,rb_mem3⟩
theorem c6[Tab V]:PP 6 [] V (.bool true):=by
 refine Pur.mk (x6 ?_)
 unfold w6
 refine Tri.mono c24 ?_
 rintro _ V1 ⟨gs,pr,ps,bs,l1,l2,rfl,s1,hd⟩
 refine⟨_,_,_,_,_,_,_,_,rfl,fun b1 h1=>?_⟩
 obtain⟨V2,e2⟩:∃V2,V2=V1.set b1 (.cells #[.int .i64 1] 3 (0,0)):=⟨_,rfl⟩
 have s2:V1.sub V2:=by rw[e2];exact Mem.sub_new h1 _
 have c1:V2 b1=some (.cells #[.int .i64 1] 3 (0,0)):=by rw[e2];exact Mem.set_same _ _ _
 erw [<- e2]
 have hm:Mm.Ok V2 ⟨qIH b1 1,[1],qAv,[]⟩:=⟨qAc.cells (row:=qAm) (xs:=[1]) c1 rfl (fun _=>rfl) rfl (by simp),fun x hx=>by
  simp only[List.mem_cons,List.not_mem_nil,or_false]at hx
  subst hx;unfold inI;omega,qAc.nil,by simp⟩
 haveI:Tab V2:=Tab.sub (V:=V) inferInstance (s1.trans s2)
 have G:qAt (rbD gs pr ps bs l1 l2) ⟨qIH b1 1,[1],qAv,[]⟩:=OkG.to (y:=([1],[])) qJa rfl
 refine Tri.mono (c8 (hd.sub s2) hm) ?_
 rintro _ V3 (⟨hG,-⟩|⟨-,p,d',W,rfl,sW,hd',SD,S⟩)
 ·exact absurd G hG
 have S:SA W V3 p d' ([1],[]) [] [] ((0:Nat):Int) qAv qAv:=S
 have s13:=(s1.trans s2).trans (sW.trans S.sub)
 refine⟨_,_,rfl,fun _=>⟨fun h=>absurd h nn,fun _ b2 h2=>?_⟩,fun h=>absurd rfl h⟩
 have s4:=Mem.sub_new h2 (.cells #[.int .i64 2] 3 (0,0))
 obtain⟨W4,w4,-,S4,n4⟩:=S.after s4
 haveI:Tab W4:=Tab.sub (V:=V2) inferInstance (sW.trans w4)
 have H0:qGf (OkG (rbD gs pr ps bs l1 l2)) [([1],[])] [] 0 [] []:=qGf.start qJa
 have r1:=rb_run1 (gs:=gs) (pr:=pr) (ps:=ps) (bs:=bs) (l1:=l1) (l2:=l2)
 obtain⟨ra,hra⟩:∃r,r=qCw (rbD gs pr ps bs l1 l2) 5 0 [2] (gst ([1],[])):=⟨_,rfl⟩
 rw[<- hra]at r1
 simp only[Prod.mk.injEq]at r1
 obtain⟨o1,g1,n1⟩:=r1
 refine Tri.mono (c10 MadeP.one (stepM (F:=5) (nm:=adds) (args:=[2]) (l:=qIH b2 1) (r:=ra) S4 H0 rfl SD (hd'.sub w4) (qAc.cells (row:=qAm) (xs:=[2]) (n4 _ _ h2 mss) rfl (fun _=>rfl) rfl (by simp)) (by decide) (by decide) (by decide) (by decide) (by rw[start_ok qJa ⟨by decide,by decide⟩];exact rb_cll1) (by rw[rb_idx];exact hra) (fun h=>by cases h.1))) ?_
 rintro _ V5 ⟨rfl,lg1,en1,es1,S5,H5,le1,-⟩
 rw[g1,n1]at S5 H5
 have s45:=Mem.sub.trans (sW.trans w4) S5.sub
 refine⟨_,_,_,_,_,_,rfl,fun b3 h3=>?_⟩
 have s6:=Mem.sub_new h3 (.cells #[.int .i64 3] 3 (0,0))
 obtain⟨W6,w6,-,S6,n6⟩:=S5.after s6
 haveI:Tab W6:=Tab.sub (V:=W4) inferInstance w6
 have r3:=rb_run3 (gs:=gs) (pr:=pr) (ps:=ps) (bs:=bs) (l1:=l1) (l2:=l2)
 obtain⟨rb,hrb⟩:∃r,r=qCw (rbD gs pr ps bs l1 l2) 5 0 [3] (gst ([3],[])):=⟨_,rfl⟩
 rw[<- hrb]at r3
 simp only[Prod.mk.injEq]at r3
 obtain⟨o3,g3,n3⟩:=r3
 refine Tri.mono (c10 MadeP.one (stepM (F:=5) (nm:=adds) (args:=[3]) (l:=qIH b3 1) (r:=rb) (x:=([3],[])) S6 H5 rfl SD (hd'.sub (w4.trans w6)) (qAc.cells (row:=qAm) (xs:=[3]) (n6 _ _ h3 mss) rfl (fun _=>rfl) rfl (by simp)) (by decide) (by simp[qAD];omega) (by simp) (by decide) (by rw[start_ok rb_good3 ⟨by decide,by decide⟩];exact rb_cll3) (by rw[rb_idx];exact hrb) (fun h=>by cases h.1))) ?_
 rintro _ V7 ⟨rfl,lg2,en2,es2,S7,H7,le2,-⟩
 rw[g3,n3]at S7 H7
 refine⟨_,_,_,_,_,_,rfl,Tri.mono (c13 (k:=2) S7 H7 rfl) ?_⟩
 rintro _ V8 (⟨hno,-⟩|⟨n,hn,-,rfl,x8,hx8,S8⟩)
 ·exact absurd ⟨by decide,by decide⟩ hno
 obtain rfl:n=1:=by omega
 have hx8:some (([3],[]):Gm)=some x8:=hx8
 cases hx8
 refine⟨_,rfl,Tri.mono (c21 S8 (hd'.sub (w4.trans w6)) (show OkG d' ([3],[]) from qAt.same (m:=gmM ([3],[])) rb_good3 SD)) ?_⟩
 rintro _ V9 ⟨s9,m,rfl,hm9,hp9⟩
 have hg9:m.globals=[3]:=(Prod.mk.inj hp9).1
 have hn9:=hm9.globals.n_eq
 rw[hg9]at hn9
 have hn9:m.gs.n=1:=hn9
 obtain⟨y,-,hy,-,-,hp,hz,hrow⟩:=hm9.globals.get (i:=0) (by omega)
 rw[hg9]at hy
 cases hy
 obtain⟨q0,gs8,ns8,nd8,T8⟩:=S8
 have S9:SA W6 V9 p d' ([3],[]) _ _ ((1:Nat):Int) lg2 en2:=⟨q0,gs8,ns8,nd8,T8.grow s9⟩
 refine⟨m.gs,m.ns,rfl,fun _=>⟨fun _=>⟨fun _=>⟨fun _=>⟨hp,by decide,by omega,3,hrow,fun _=>(c18 (k:=1) S9).call ⟨_,rfl,fun _=>(c19 (k:=1) S9).call ⟨_,rfl,?_⟩,fun h=>absurd rfl h⟩,fun h=>absurd rfl h⟩,fun h=>absurd (by show (m.gs.n:Int)=1;omega) h⟩,fun h=>absurd rfl h⟩,fun h=>absurd rfl h⟩,fun h=>absurd rfl h⟩
 refine⟨?_,((s1.trans s2).trans ((sW.trans w4).trans w6)).trans S9.sub⟩
 simp[qAD]
end
structure Stp where
 kind:Int
 nm:ByteArray
 l:Sl
 fuel:Int
 n:Int
def Stp.row(x:Stp):List Value:=[.int .i64 x.kind,.string x.nm,x.l.v,.int .i64 x.fuel,.int .i64 x.n]
def fuelOk(F:Int):Prop:=F<=600∨1048576<F
section
variable{V:Mem}{d:Ds}{m:Mm}
theorem smallOne{x:Stp}:Tri Tryz.prog 28 #[.agg x.row.toArray] V fun e V'=>V=V'/\∃b:Bool,e=.returned (.bool b)/\(b=false->fuelOk x.fuel):=by
 refine x28 ?_
 unfold w28
 refine⟨fun _=>⟨rfl,true,rfl,fun h=>by cases h⟩,fun _=>⟨fun _=>⟨rfl,true,rfl,fun h=>by cases h⟩,fun _=>⟨fun h1=>⟨rfl,_,rfl,fun h=>.inr ?_⟩,fun h1=>⟨rfl,false,rfl,fun _=>.inl ?_⟩⟩⟩⟩
 ·have:=of_decide_eq_false h;omega
 ·have h1:¬600<x.fuel:=h1;omega
theorem smallIx{s:Sl}{cs:List Stp}(h:qAc V s 5 (cs.map Stp.row)):Tri Tryz.prog 47 #[.slice s.p s.n s.c,.func (.func 28) #[] #[]] V fun e V'=>V=V'/\∃r:Int,e=.returned (.int .i64 r)/\(¬0<=r->∀x∈cs,fuelOk x.fuel):=by
 refine x47 (a:=s) (b:=.func (.func 28) #[] #[]) ?_
 unfold w47
 refine qBl (mk:=.int .i64) (b0:=0) cs.length (fun i V1=>V=V1/\∀j x,j<i->cs[j]?=some x->fuelOk x.fuel) ⟨rfl,fun j x h=>by omega⟩ ?_
 rintro i b V1 J hi ⟨rfl,ha⟩ hJ
 refine⟨fun hlt=>?_,fun hge=>?_⟩
 ·obtain⟨x,hxm,hx,-,hil,hp,hz,hrow⟩:=h.get hlt
  refine⟨hp,hz,hlt,_,_,_,_,_,hrow,28,#[],#[],rfl,Tryz.call28,Tri.mono (smallOne (x:=x)) ?_⟩
  rintro _ _ ⟨rfl,b,rfl,hb⟩
  refine⟨b,rfl,fun _=>⟨rfl,_,rfl,fun hn=>absurd (by omega) hn⟩,fun hf=>⟨h.succ hlt,hJ hil _ _ ⟨rfl,fun j y hj hy=>?_⟩⟩⟩
  rcases Nat.lt_succ_iff_lt_or_eq.1 hj with h'|rfl
  ·exact ha j y h' hy
  ·rw[hx]at hy;cases hy
   exact hb (by simpa using hf)
 ·have hd:=(h.done hge).2
  refine⟨rfl,_,rfl,fun _ x hx=>?_⟩
  obtain⟨j,hj⟩:=List.mem_iff_getElem?.1 hx
  exact ha j x (by have:=(List.getElem?_eq_some_iff.1 hj).1;omega) hj
theorem smallS(hd:Ds.Ok V d)(hm:Mm.Ok V m){s:Sl}{cs:List Stp}(h:qAc V s 5 (cs.map Stp.row)):Tri Tryz.prog 7 #[d.v,m.v,.slice s.p s.n s.c] V fun e V'=>V=V'/\∃b:Bool,e=.returned (.bool b)/\(b=true->cs.length<=14/\∀x∈cs,fuelOk x.fuel):=by
 have hn:=h.n_eq
 refine x7 ?_
 unfold w7
 refine Tri.mono (greatC hd) ?_
 rintro _ _ ⟨rfl,b,rfl⟩
 refine⟨_,rfl,fun _=>⟨rfl,false,rfl,fun h=>by cases h⟩,fun _=>Tri.mono (manyC hm) ?_⟩
 rintro _ _ ⟨rfl,b,rfl⟩
 refine⟨_,rfl,fun _=>⟨rfl,false,rfl,fun h=>by cases h⟩,fun _=>⟨fun h1=>?_,fun _=>⟨rfl,false,rfl,fun h=>by cases h⟩⟩⟩
 have h1:(s.n:Int)<=14:=h1
 refine Tri.mono (x27 (a:=s) (b:=.func (.func 28) #[] #[]) (R:=fun e V'=>V=V'/\∃r:Int,e=.returned (.bool (decide (0<=r)))/\(¬0<=r->∀x∈cs,fuelOk x.fuel)) ?_) ?_
 ·unfold w27
  refine Tri.mono (smallIx h) ?_
  rintro _ _ ⟨rfl,r,rfl,hr⟩
  exact⟨r,rfl,rfl,r,rfl,hr⟩
 ·rintro _ _ ⟨rfl,r,rfl,hr⟩
  refine⟨_,rfl,rfl,_,rfl,fun hb=>⟨by omega,hr ?_⟩⟩
  simpa using hb
end
theorem nilCall{V:Mem}{nm:ByteArray}{l:Sl}{F:Int}:Tri Tryz.prog 10 #[.pointer none,.agg #[.string nm,l.v],.int .i64 F] V fun e V'=>V'=V/\e=.returned (.tuple #[.agg (qCG 0 0 0 0).toArray,.int .i64 1]):=by
 refine c10 (P:=fun e V'=>V'=V/\e=.returned (.tuple #[.agg (qCG 0 0 0 0).toArray,.int .i64 1])) (fun e V' ⟨_,h⟩=>⟨_,_,_,_,_,_,h⟩) ?_
 refine x35 (R:=fun e V'=>V'=V/\e=.returned (.tuple #[.agg (qCG 0 0 0 0).toArray,.int .i64 1])) ?_
 unfold w35
 exact⟨fun _=>⟨rfl,rfl⟩,fun h=>absurd rfl h⟩
theorem nilAtomic{V:Mem}{nm:ByteArray}{l:Sl}{F:Int}:Tri Tryz.prog 11 #[.pointer none,.agg #[.string nm,l.v],.int .i64 F] V fun e V'=>V'=V/\e=.returned (.tuple #[.agg (qCG 0 0 0 0).toArray,.int .i64 1]):=by
 refine c11 (P:=fun e V'=>V'=V/\e=.returned (.tuple #[.agg (qCG 0 0 0 0).toArray,.int .i64 1])) (fun e V' ⟨_,h⟩=>⟨_,_,_,_,_,_,h⟩) ?_
 refine x35 (R:=fun e V'=>V'=V/\e=.returned (.tuple #[.agg (qCG 0 0 0 0).toArray,.int .i64 1])) ?_
 unfold w35
 exact⟨fun _=>⟨rfl,rfl⟩,fun h=>absurd rfl h⟩
theorem nilMark{V:Mem}:PP 18 [.pointer none] V (.int .i64 0):=by
 refine x18 ?_
 unfold w18
 exact⟨fun _=>⟨rfl,rfl⟩,fun h=>absurd rfl h⟩
theorem nilMarks{V:Mem}:PP 19 [.pointer none] V (.int .i64 0):=by
 refine x19 ?_
 unfold w19
 exact⟨fun _=>⟨rfl,rfl⟩,fun h=>absurd rfl h⟩
theorem nilLogged{V:Mem}:PP 20 [.pointer none] V (.int .i64 0):=by
 refine x20 ?_
 unfold w20
 exact⟨fun _=>⟨rfl,rfl⟩,fun h=>absurd rfl h⟩
theorem nilUndo{V:Mem}{j:Int}:PP 13 [.pointer none,.int .i64 j] V (.int .i64 1):=by
 refine x13 ?_
 unfold w13
 exact⟨fun _=>⟨rfl,rfl⟩,fun h=>absurd rfl h⟩
theorem nilRedo{V:Mem}:PP 15 [.pointer none] V (.tuple #[.int .i64 0,.int .i64 1]):=by
 refine x15 ?_
 unfold w15
 exact⟨fun _=>⟨rfl,rfl⟩,fun h=>absurd rfl h⟩
theorem nilMemory{V:Mem}:PP 21 [.pointer none] V (.agg #[qAv.v,qAv.v]):=by
 refine x21 ?_
 unfold w21
 exact⟨fun _=>⟨rfl,rfl⟩,fun h=>absurd rfl h⟩
theorem tri_frame{P:Program}{f:FuncId}{args:Array Value}{U:Mem}{M:Nat->Prop}{R:Ending->Mem->Prop}(hM:∀b,M b->U b≠none)(h:Tri P f args (Mem.minus U M) R) :
  Tri P f args U fun e V2=>∃V',R e V'/\V'.sub V2/\(∀b o,M b->U b=some o->V2 b=some o)/\∀b,M b->V' b=none:=by
 unfold Tri at h ⊢
 intro w hw
 have hlt:∀b,M b->b<w.heap.size:=fun b hb=>by
  cases hu:U b with
  | none=>exact absurd hu (hM b hb)
  | some o=>exact(Array.getElem?_eq_some_iff.1 (hw b o hu)).1
 intro cs
 obtain⟨e,w',fr,⟨V',hR,hF⟩,rest⟩:=h w (fun b o hb=>hw b o (qBF b o hb)) cs
 have hno:∀b,M b->V' b=none:=fun b hb=>by
  cases hv:V' b with
  | none=>rfl
  | some o =>
   rcases hF.dom b (by rw[hv];simp) with h1|h1
   ·exact absurd (qCd hb) h1
   ·have:=hlt b hb;omega
 classical
 refine⟨e,w',fr,⟨fun b=>if M b then U b else V' b,⟨V',hR,fun b o hb=>?_,fun b o hm hb=>?_,hno⟩,⟨hF.size,fun b o hb=>?_,fun b hb hu=>?_,fun b hb=>?_,hF.os,hF.out⟩⟩,rest⟩
 ·show (if M b then U b else V' b)=some o
  rw[if_neg fun hm=>by rw[hno b hm]at hb;cases hb];exact hb
 ·show (if M b then U b else V' b)=some o
  rw[if_pos hm];exact hb
 ·have hb:(if M b then U b else V' b)=some o:=hb
  by_cases hm:M b
  ·rw[if_pos hm]at hb
   rw[hF.old b (hlt b hm) (qCd hm)]
   exact hw b o hb
  ·rw[if_neg hm]at hb
   exact hF.le b o hb
 ·refine hF.old b hb ?_
  by_cases hm:M b
  ·exact qCd hm
  ·rw[qAR hm];exact hu
 ·have hb:(if M b then U b else V' b)≠none:=hb
  by_cases hm:M b
  ·exact .inl (hM b hm)
  ·rw[if_neg hm]at hb
   rcases hF.dom b hb with h1|h1
   ·rw[qAR hm]at h1;exact .inl h1
   ·exact .inr h1
section
variable{W V V':Mem}{p:Nat}{d:Ds}{x:Gm}{log:List En}{ends:List Nat}{k:Int}{lg en:Sl}
def SF(M:Nat->Prop)(V:Mem)(p:Nat)(d:Ds)(x:Gm)(log:List En)(ends:List Nat)(k:Int)(lg en:Sl):Prop:=(∀b,M b->V b≠none)/\∀V',(∀b o,M b->V b=some o->V' b=some o)->SA (Mem.minus V' M) V' p d x log ends k lg en
theorem SA.frame(S:SA W V p d x log ends k lg en):∃M,(∀b,M b->W b=none)/\SF M V p d x log ends k lg en:=by
 obtain⟨p0,gs,ns,nd,S⟩:=S
 have own:∀{e sz:Nat} {s:Sl} {vs:List Value},Sx.Own W V e sz s vs->∀c,Blk s c->V c≠none/\W c=none:=fun {e sz s vs} o c hc=>⟨by obtain⟨cur,h⟩:=Own.some o hc;rw[h];simp,Own.none0 o hc⟩
 obtain⟨M,hM⟩:∃M:Nat->Prop,M=fun c=>c=p∨Blk gs c∨Blk ns c∨Blk lg c∨Blk en c∨∃n∈nd,Blk n.sl c:=⟨_,rfl⟩
 have hin:∀c,M c->V c≠none/\W c=none:=fun c hc=>by
  rw[hM]at hc
  rcases hc with rfl|h|h|h|h|⟨n,hn,h⟩
  ·exact⟨by rw[S.at_];simp,p0⟩
  ·exact own S.lay.glob c h
  ·exact own S.lay.nodes c h
  ·exact own S.lgo c h
  ·exact own S.eno c h
  ·exact own (S.lay.fld n hn) c h
 refine⟨M,fun b hb=>(hin b hb).2,fun b hb=>(hin b hb).1,fun V' hk=>?_⟩
 have go:∀{e sz:Nat} {s:Sl} {vs:List Value},(∀c,Blk s c->M c)->Sx.Own W V e sz s vs->Sx.Own (Mem.minus V' M) V' e sz s vs:=fun {e sz s vs} hm h=>⟨qBF,h.len,by
  rcases h.cases0 with h1|⟨hc,g,cur,h1,h2,h3,h4⟩
  ·exact .inl h1
  ·exact .inr ⟨g,cur,h1,qCd (hm g ⟨hc,h1⟩),hk _ _ (hm g ⟨hc,h1⟩) h3,h4⟩⟩
 have hp:M p:=by rw[hM];exact .inl rfl
 exact⟨qCd hp,gs,ns,nd,hk _ _ hp S.at_,⟨go (fun c h=>by rw[hM];exact .inr (.inl h)) S.lay.glob,go (fun c h=>by rw[hM];exact .inr (.inr (.inl h))) S.lay.nodes,Own.nil qBF _ _,fun n hn=>go (fun c h=>by rw[hM];exact .inr (.inr (.inr (.inr (.inr ⟨n,hn,h⟩))))) (S.lay.fld n hn),S.lay.eq,S.lay.gf,S.lay.ff⟩,go (fun c h=>by rw[hM];exact .inr (.inr (.inr (.inl h)))) S.lgo,go (fun c h=>by rw[hM];exact .inr (.inr (.inr (.inr (.inl h))))) S.eno,S.eg,S.ef⟩
theorem SF.keep{M:Nat->Prop}(h:SF M V p d x log ends k lg en)(hk:∀b o,M b->V b=some o->V' b=some o):SF M V' p d x log ends k lg en:=⟨fun b hb=>by
 cases hv:V b with
 | none=>exact absurd hv (h.1 b hb)
 | some o=>rw[hk b o hb hv];simp,fun V2 h2=>h.2 V2 fun b o hb hv=>h2 b o hb (hk b o hb hv)⟩
end
structure Sto where
 p:Nat
 d:Ds
 x:Gm
 log:List En
 ends:List Nat
 k:Int
 lg:Sl
 en:Sl
abbrev SAs(W V:Mem)(s:Sto):Prop:=SA W V s.p s.d s.x s.log s.ends s.k s.lg s.en
def qGe(D V:Mem)(s t:Sto):Prop:=∃M N:Nat->Prop,SF M V s.p s.d s.x s.log s.ends s.k s.lg s.en/\SF N V t.p t.d t.x t.log t.ends t.k t.lg t.en/\(∀b,M b->N b->False)/\D.sub V/\∀b,D b≠none->¬M b/\¬N b
section
variable{D V V':Mem}{s t:Sto}
theorem qGe.swap(h:qGe D V s t):qGe D V t s:=by
 obtain⟨M,N,f,g,dj,dv,dd⟩:=h
 exact⟨N,M,g,f,fun b hn hm=>dj b hm hn,dv,fun b hb=>⟨(dd b hb).2,(dd b hb).1⟩⟩
theorem qGe.sub(h:qGe D V s t):D.sub V:=by
 obtain⟨M,N,f,g,dj,dv,dd⟩:=h;exact dv
theorem qGe.fst(h:qGe D V s t):∃W,D.sub W/\W.sub V/\SAs W V s/\∀{V':Mem} {s':Sto},SAs W V' s'->qGe D V' s' t:=by
 obtain⟨M,N,f,g,dj,dv,dd⟩:=h
 have hD:D.sub (Mem.minus V M):=fun b o hb=>by
  rw[qAR (dd b (by rw[hb];simp)).1];exact dv _ _ hb
 refine⟨Mem.minus V M,hD,qBF,f.2 V fun _ _ _ h=>h,fun {V' s'} S'=>?_⟩
 obtain⟨M',h1,h2⟩:=SA.frame S'
 have hN:∀b o,N b->V b=some o->Mem.minus V M b=some o:=fun b o hn hb=>by rw[qAR fun hm=>dj b hm hn];exact hb
 refine⟨M',N,h2,g.keep fun b o hn hb=>S'.sub _ _ (hN b o hn hb),fun b hm hn=>?_,hD.trans S'.sub,fun b hb=>⟨fun hm=>?_,(dd b hb).2⟩⟩
 ·have h0:=h1 b hm
  cases hv:V b with
  | none=>exact g.1 b hn hv
  | some o=>rw[hN b o hn hv]at h0;cases h0
 ·have h0:=h1 b hm
  cases hd:D b with
  | none=>exact hb hd
  | some o=>rw[hD _ _ hd]at h0;cases h0
theorem qGe.snd(h:qGe D V s t):∃W,D.sub W/\W.sub V/\SAs W V t/\∀{V':Mem} {t':Sto},SAs W V' t'->qGe D V' s t':=by
 obtain⟨W,h1,h2,h3,h4⟩:=h.swap.fst
 exact⟨W,h1,h2,h3,fun h=>(h4 h).swap⟩
theorem qGe.grow(h:qGe D V s t)(hs:V.sub V'):qGe D V' s t:=by
 obtain⟨M,N,f,g,dj,dv,dd⟩:=h
 exact⟨M,N,f.keep fun b o _ hb=>hs _ _ hb,g.keep fun b o _ hb=>hs _ _ hb,dj,dv.trans hs,dd⟩
end
theorem newTwo{V:Mem}[Tab V]{d:Ds}{m:Mm}(hd:Ds.Ok V d)(hm:Mm.Ok V m)(G:qAt d m){W V1:Mem}{p:Nat}{d1:Ds}(sW:V.sub W)(h1:Ds.Ok W d1)(S:SA W V1 p d1 m.plain [] [] ((0:Nat):Int) qAv qAv) :
  Tri Tryz.prog 8 #[d.v,m.v] V1 fun e V'=>∃q d2 D,e=.returned (.tuple #[pv q,.int .i64 0])/\V.sub D/\Ds.Ok D d1/\Ds.Ok D d2/\qEy d d2/\qGe D V' ⟨p,d1,m.plain,[],[],((0:Nat):Int),qAv,qAv⟩ ⟨q,d2,m.plain,[],[],((0:Nat):Int),qAv,qAv⟩:=by
 obtain⟨M,k1,k2⟩:=SA.frame S
 have s1:W.sub (Mem.minus V1 M):=fun b o hb=>by
  rw[qAR fun hm=>by rw[k1 b hm]at hb;cases hb];exact S.sub _ _ hb
 haveI:Tab (Mem.minus V1 M):=Tab.sub (V:=V) inferInstance (sW.trans s1)
 refine Tri.mono (tri_frame k2.1 (c8 (hd.sub (sW.trans s1)) (hm.sub (sW.trans s1)))) ?_
 rintro e V2 ⟨V3,h,s2,k3,k4⟩
 rcases h with⟨hG,-⟩|⟨-,q,d2,D,rfl,sD,hd2,SD,S2⟩
 ·exact absurd G hG
 obtain⟨N,n1,n2⟩:=SA.frame S2
 have hN:∀b,N b->V3 b≠none:=n2.1
 have hNM:∀b,M b->N b->False:=fun b hm hn=>hN b hn (k4 b hm)
 refine⟨q,d2,D,rfl,(sW.trans s1).trans sD,h1.sub (s1.trans sD),hd2,SD,M,N,k2.keep k3,?_,hNM,S2.sub.trans s2,fun b hb=>⟨fun hm=>?_,fun hn=>hb (n1 b hn)⟩⟩
 ·exact n2.keep fun b o _ hb=>s2 _ _ hb
 ·cases hD:D b with
  | none=>exact hb hD
  | some o=>have:=S2.sub _ _ hD;rw[k4 b hm]at this;cases this
structure Rdy (D:Mem) (d:Ds) (x0:Gm) (s:Sto) (k n:Nat):Prop where
 hk:s.k=(k:Int)
 sd:qEy d s.d
 ok:Ds.Ok D s.d
 ex:∃mems logs,qGf (OkG d) mems logs k s.log s.ends/\mems[k]?=some s.x/\mems[0]?=some x0/\logs.length<=n/\s.log.length<=2400000*n
def OpR(D:Mem)(d:Ds)(x0:Gm)(atm:Bool)(s:Sto)(k n F:Nat)(nm:ByteArray)(args:List Int)(row:List Value)(code:Int)(s':Sto):Prop :=
 (qAJ d (gmM s.x) nm args F≠0/\row=qCG 0 0 0 0/\code=qAJ d (gmM s.x) nm args F/\s'=s) ∨
 (qAJ d (gmM s.x) nm args F=0/\code=0/\∃r:Rx Int,r=qCw d F (qEj d nm) args (gst s.x)/\row=qGn r /\
  ((atm=true/\outC r≠0/\s'=s)∨(¬(atm=true/\outC r≠0)/\s'.p=s.p/\s'.x=(r.st.g,r.st.ns)/\Rdy D d x0 s' (k+1) (n+1)/\qAD s'.ends (k+1)=qAD s.ends k+(r.st.lg.filter fun t=>decide (t.1≠1)).length)))
theorem stepTwo{D V:Mem}[Tab D]{d:Ds}{x0:Gm}{s t:Sto}{k n F:Nat}{nm:ByteArray}{args:List Int}{l:Sl}{atm:Bool}(T:qGe D V s t)(Q:Rdy D d x0 s k n)(hn:n<=20)(ha:qAc D l 1 (args.map qAm))(hF:F<=600) :
  Tri Tryz.prog 35 #[.pointer (some ⟨s.p,0,none⟩),.agg #[.string nm,l.v],.int .i64 F,.bool atm] V fun e V'=>∃row code s',e=.returned (.tuple #[.agg (row:List Value).toArray,.int .i64 code])/\qGe D V' s' t/\OpR D d x0 atm s k n F nm args row code s':=by
 obtain⟨hk,sd,ok,mems,logs,H,hx,hx0,hl,hlg⟩:=Q
 obtain⟨W,w1,-,S,back⟩:=T.fst
 have S:SA W V s.p s.d s.x s.log s.ends s.k s.lg s.en:=S
 rw[hk]at S
 haveI:Tab W:=Tab.sub (V:=D) inferInstance w1
 have hkl:=H.le
 have hel:=H.elen
 have G:OkG d s.x:=by
  obtain⟨hl,e⟩:=List.getElem?_eq_some_iff.1 hx
  exact H.ok _ (e ▸ List.getElem_mem hl)
 have ek:qAD s.ends k<=s.log.length:=H.bound hkl
 have same:∀{V':Mem},SA W V' s.p s.d s.x s.log s.ends ((k:Nat):Int) s.lg s.en->qGe D V' s t:=fun S'=>back (s':=s) (by rw[<- hk]at S';exact S')
 refine Tri.mono (c35 S H G sd (ok.sub w1) (ha.sub w1) (F:=F) (by omega) (by omega) (by omega)) ?_
 rintro e V' (⟨h,rfl,S'⟩|⟨hc,r,hr,⟨h,-⟩|⟨-,h1,h2,rfl,S'⟩|⟨-,h1,rfl,lg',en',S'⟩⟩)
 ·exact⟨_,_,s,rfl,same S',.inl ⟨h,rfl,rfl,rfl⟩⟩
 ·omega
 ·exact⟨_,_,s,rfl,same S',.inr ⟨hc,rfl,r,hr,rfl,.inl ⟨h1,h2,rfl⟩⟩⟩
 ·obtain⟨a1,a2,a3⟩:=made_of H hx hc hr
  have hlt:(s.log.take (qAD s.ends k)).length=qAD s.ends k:=by rw[List.length_take];omega
  refine⟨_,_,⟨s.p,s.d,(r.st.g,r.st.ns),_,_,_,lg',en'⟩,rfl,back (s':=⟨s.p,s.d,(r.st.g,r.st.ns),_,_,_,lg',en'⟩) S',.inr ⟨hc,rfl,r,hr,rfl,.inr ⟨h1,rfl,rfl,⟨rfl,sd,ok,_,_,a1,?_,?_,?_,?_⟩,?_⟩⟩⟩
  ·have hml:=H.len
   rw[List.getElem?_append_right (by rw[List.length_take];omega),List.length_take,Nat.min_eq_left (by omega),Nat.sub_self];rfl
  ·have hml:=H.len
   rw[List.getElem?_append_left (by rw[List.length_take];omega),List.getElem?_take,if_pos (by omega)];exact hx0
  ·rw[List.length_append,List.length_take,List.length_singleton];omega
  ·rw[List.length_append,hlt];omega
  ·show qAD (s.ends.take k++[_]) (k+1)=_
   rw[qEp (by omega),a3]
section
variable{D V:Mem}{d:Ds}{x0 x1:Gm}{s t s' t':Sto}{k n n2 F:Nat}{nm:ByteArray}{args:List Int}{l:Sl}{atm atm2:Bool}{row row2:List Value}{code code2:Int}
theorem OpR.five(h:OpR D d x0 atm s k n F nm args row code s'):∃a b c e f:Int,row=[.int .i64 a,.int .i64 b,.int .i64 c,.int .i64 e,.int .i64 f]:=by
 rcases h with⟨-,rfl,-⟩|⟨-,-,r,-,rfl,-⟩ <;> exact⟨_,_,_,_,_,rfl⟩
theorem OpR.same(h:OpR D d x0 atm s k n F nm args row code s')(h2:OpR D d x1 atm2 t k n2 F nm args row2 code2 t')(hx:s.x=t.x):row=row2/\code=code2:=by
 unfold OpR at h h2
 rw[<- hx]at h2
 rcases h with⟨a1,a2,a3,-⟩|⟨a1,a2,r,a3,a4,-⟩
 ·rcases h2 with⟨b1,b2,b3,-⟩|⟨b1,-⟩
  ·exact⟨a2.trans b2.symm,a3.trans b3.symm⟩
  ·exact absurd b1 a1
 ·rcases h2 with⟨b1,-⟩|⟨-,b2,r2,b3,b4,-⟩
  ·exact absurd a1 b1
  ·exact⟨by rw[a4,b4,a3,b3],a2.trans b2.symm⟩
theorem twoCall[Tab D](T:qGe D V s t)(Q:Rdy D d x0 s k n)(hn:n<=20)(ha:qAc D l 1 (args.map qAm))(hF:F<=600) :
  Tri Tryz.prog 10 #[.pointer (some ⟨s.p,0,none⟩),.agg #[.string nm,l.v],.int .i64 F] V fun e V'=>∃(a b c g f code:Int) (s':Sto),e=.returned (.tuple #[.agg #[.int .i64 a,.int .i64 b,.int .i64 c,.int .i64 g,.int .i64 f],.int .i64 code])/\qGe D V' s' t/\OpR D d x0 false s k n F nm args [.int .i64 a,.int .i64 b,.int .i64 c,.int .i64 g,.int .i64 f] code s':=by
 refine c10 (fun e V' h=>by
  obtain⟨a,b,c,g,f,code,s',h,-⟩:=h
  exact⟨_,_,_,_,_,_,h⟩) (Tri.mono (stepTwo (atm:=false) T Q hn ha hF) fun e V' h=>?_)
 obtain⟨row,code,s',rfl,T',O⟩:=h
 obtain⟨a,b,c,g,f,rfl⟩:=O.five
 exact⟨a,b,c,g,f,code,s',rfl,T',O⟩
theorem qGX[Tab D](T:qGe D V s t)(Q:Rdy D d x0 s k n)(hn:n<=20)(ha:qAc D l 1 (args.map qAm))(hF:F<=600) :
  Tri Tryz.prog 11 #[.pointer (some ⟨s.p,0,none⟩),.agg #[.string nm,l.v],.int .i64 F] V fun e V'=>∃(a b c g f code:Int) (s':Sto),e=.returned (.tuple #[.agg #[.int .i64 a,.int .i64 b,.int .i64 c,.int .i64 g,.int .i64 f],.int .i64 code])/\qGe D V' s' t/\OpR D d x0 true s k n F nm args [.int .i64 a,.int .i64 b,.int .i64 c,.int .i64 g,.int .i64 f] code s':=by
 refine c11 (fun e V' h=>by
  obtain⟨a,b,c,g,f,code,s',h,-⟩:=h
  exact⟨_,_,_,_,_,_,h⟩) (Tri.mono (stepTwo (atm:=true) T Q hn ha hF) fun e V' h=>?_)
 obtain⟨row,code,s',rfl,T',O⟩:=h
 obtain⟨a,b,c,g,f,rfl⟩:=O.five
 exact⟨a,b,c,g,f,code,s',rfl,T',O⟩
theorem Rdy.ok2(Q:Rdy D d x0 s k n):OkG d s.x:=by
 obtain⟨mems,logs,H,hx,-⟩:=Q.ex
 obtain⟨hl,e⟩:=List.getElem?_eq_some_iff.1 hx
 exact H.ok _ (e ▸ List.getElem_mem hl)
theorem qGW(T:qGe D V s t)(Q:Rdy D d x0 s k n):Tri Tryz.prog 21 #[.pointer (some ⟨s.p,0,none⟩)] V fun e V'=>V.sub V'/\∃m:Mm,e=.returned m.v/\Mm.Ok V' m/\m.plain=s.x:=by
 obtain⟨W,w1,-,S,-⟩:=T.fst
 have S:SA W V s.p s.d s.x s.log s.ends s.k s.lg s.en:=S
 rw[Q.hk]at S
 exact c21 S (Q.ok.sub w1) (show OkG s.d s.x from qAt.same (m:=gmM s.x) Q.ok2 Q.sd)
theorem twoMark(T:qGe D V s t)(Q:Rdy D d x0 s k n):PP 18 [.pointer (some ⟨s.p,0,none⟩)] V (.int .i64 k):=by
 obtain⟨W,w1,-,S,-⟩:=T.fst
 have S:SA W V s.p s.d s.x s.log s.ends s.k s.lg s.en:=S
 rw[Q.hk]at S
 exact c18 S
theorem twoMarks(T:qGe D V s t)(Q:Rdy D d x0 s k n):PP 19 [.pointer (some ⟨s.p,0,none⟩)] V (.int .i64 s.ends.length):=by
 obtain⟨W,w1,-,S,-⟩:=T.fst
 have S:SA W V s.p s.d s.x s.log s.ends s.k s.lg s.en:=S
 rw[Q.hk]at S
 exact c19 S
theorem twoLogged(T:qGe D V s t)(Q:Rdy D d x0 s k n):PP 20 [.pointer (some ⟨s.p,0,none⟩)] V (.int .i64 (qAD s.ends k)):=by
 obtain⟨W,w1,-,S,-⟩:=T.fst
 have S:SA W V s.p s.d s.x s.log s.ends s.k s.lg s.en:=S
 rw[Q.hk]at S
 obtain⟨mems,logs,H,-⟩:=Q.ex
 exact c20 S (by have:=H.le;have:=H.elen;omega)
end
section
variable{D V:Mem}{d:Ds}{x0 x1:Gm}{s t s' t':Sto}{k n n2 F:Nat}{nm:ByteArray}{args:List Int}{l:Sl}{row row2:List Value}{code code2:Int}{R:RP}
theorem Rdy.more(Q:Rdy D d x0 s k n):Rdy D d x0 s k (n+1):=by
 obtain⟨a,b,c,mems,logs,H,h1,h2,h3,h4⟩:=Q
 exact⟨a,b,c,mems,logs,H,h1,h2,by omega,by omega⟩
theorem OpR.next(h:OpR D d x0 true s k n F nm args row code s')(h2:OpR D d x1 true t k n2 F nm args row2 code2 t')(Q:Rdy D d x0 s k n)(Q2:Rdy D d x1 t k n2)(hx:s.x=t.x)(he:qAD s.ends k=qAD t.ends k) :
  s'.p=s.p/\t'.p=t.p/\∃k',Rdy D d x0 s' k' (n+1)/\Rdy D d x1 t' k' (n2+1)/\s'.x=t'.x/\qAD s'.ends k'=qAD t'.ends k':=by
 unfold OpR at h h2
 rw[<- hx]at h2
 rcases h with⟨a1,-,-,rfl⟩|⟨a1,-,r,a3,-,⟨a5,a6,rfl⟩|⟨a5,a6,a7,a8,a9⟩⟩
 ·rcases h2 with⟨-,-,-,rfl⟩|⟨b1,-⟩
  ·exact⟨rfl,rfl,k,Q.more,Q2.more,hx,he⟩
  ·exact absurd b1 a1
 ·rcases h2 with⟨b1,-⟩|⟨-,-,r2,b3,-,⟨-,-,rfl⟩|⟨b5,-⟩⟩
  ·exact absurd a1 b1
  ·exact⟨rfl,rfl,k,Q.more,Q2.more,hx,he⟩
  ·rw[b3,<- a3]at b5;exact absurd ⟨a5,a6⟩ b5
 ·rcases h2 with⟨b1,-⟩|⟨-,-,r2,b3,-,⟨b5,b6,-⟩|⟨b5,b6,b7,b8,b9⟩⟩
  ·exact absurd a1 b1
  ·rw[b3,<- a3]at b6;exact absurd ⟨b5,b6⟩ a5
  ·have e:r2=r:=by rw[b3,a3]
   subst e
   exact⟨a6,b6,k+1,a8,b8,a7.trans b7.symm,by rw[a9,b9,he]⟩
theorem qHC[Tab D](T:qGe D V s t)(Q:Rdy D d x0 s k n)(Q2:Rdy D d x1 t k n2)(hn:n<=20)(hn2:n2<=20)(hx:s.x=t.x)(he:qAD s.ends k=qAD t.ends k)(ha:qAc D l 1 (args.map qAm))(hF:F<=600)(hR:∀V',D.sub V'->R (rV (uB true)) V') :
  TT 11 #[uP (some ⟨s.p,0,none⟩),uA #[uS nm,uL l],uI F] V fun e V16=>∃v54 v55 v56 v57 v58 v59,e=rT #[uA #[uI v54,uI v55,uI v56,uI v57,uI v58],uI v59] /\
  TT 11 #[uP (some ⟨t.p,0,none⟩),uA #[uS nm,uL l],uI F] V16 fun e V17=>∃v60 v61 v62 v63 v64 v65,e=rT #[uA #[uI v60,uI v61,uI v62,uI v63,uI v64],uI v65] /\
  Br ((v54=v60)/\((v55=v61)/\((v56=v62)/\((v57=v63)/\(v58=v64)))))
  (Br (v59=v65)
  (TT 21 #[uP (some ⟨s.p,0,none⟩)] V17 fun e V18=>∃v66 v67,e=rV (uA #[uL v66,uL v67]) /\
  TT 21 #[uP (some ⟨t.p,0,none⟩)] V18 fun e V19=>∃v68 v69,e=rV (uA #[uL v68,uL v69]) /\
  TT 22 #[uA #[uL v66,uL v67],uA #[uL v68,uL v69]] V19 fun e V20=>∃v70,e=rV (uB v70) /\
  Br (v70=true)
  (TT 18 #[uP (some ⟨s.p,0,none⟩)] V20 fun e V21=>∃v71,e=rV (uI v71) /\
  TT 18 #[uP (some ⟨t.p,0,none⟩)] V21 fun e V22=>∃v72,e=rV (uI v72) /\
  Br (v71=v72)
  (TT 20 #[uP (some ⟨s.p,0,none⟩)] V22 fun e V23=>∃v73,e=rV (uI v73) /\
  TT 20 #[uP (some ⟨t.p,0,none⟩)] V23 fun e V24=>∃v74,e=rV (uI v74) /\
  R (rV (uB (decide (v73=v74)))) V24)
  (R (rV (uB false)) V22))
  (R (rV (uB false)) V20))
  (R (rV (uB false)) V17))
  (R (rV (uB false)) V17):=by
 refine Tri.mono (qGX T Q hn ha hF) ?_
 rintro _ V16 ⟨a,b,c,g,f,c1,s',rfl,T1,O1⟩
 refine⟨a,b,c,g,f,c1,rfl,?_⟩
 refine Tri.mono (qGX T1.swap Q2 hn2 ha hF) ?_
 rintro _ V17 ⟨a',b',c',g',f',c2,t',rfl,T2,O2⟩
 refine⟨a',b',c',g',f',c2,rfl,?_⟩
 obtain⟨hrow,hcode⟩:=O1.same O2 hx
 simp only[List.cons.injEq,Value.int.injEq,true_and,and_true]at hrow
 obtain⟨hp1,hp2,k',Q1',Q2',hx',he'⟩:=O1.next O2 Q Q2 hx he
 have T2:=T2.swap
 rw[<- hp1,<- hp2]
 refine⟨fun _=>⟨fun _=>?_,fun h=>absurd hcode h⟩,fun h=>absurd hrow h⟩
 refine Tri.mono (qGW T2 Q1') ?_
 rintro _ V18 ⟨s18,m1,rfl,m1o,m1p⟩
 have T3:=T2.grow s18
 refine⟨m1.gs,m1.ns,rfl,Tri.mono (qGW T3.swap Q2') ?_⟩
 rintro _ V19 ⟨s19,m2,rfl,m2o,m2p⟩
 have T4:=T3.grow s19
 refine⟨m2.gs,m2.ns,rfl,(c22 (a:=m1) (b:=m2) (m1o.sub s19) m2o).call ⟨_,rfl,fun _=>?_,fun h=>absurd (decide_eq_true (m1p.trans (hx'.trans m2p.symm))) h⟩⟩
 refine(twoMark T4 Q1').call ⟨_,rfl,(twoMark T4.swap Q2').call ⟨_,rfl,fun _=>?_,fun h=>absurd rfl h⟩⟩
 refine(twoLogged T4 Q1').call ⟨_,rfl,(twoLogged T4.swap Q2').call ⟨_,rfl,?_⟩⟩
 rw[he',decide_eq_true rfl]
 exact hR _ T4.sub
end
section
variable{V:Mem}{d:Ds}{m:Mm}{na nb:ByteArray}{xa xb:List Int}{la lb:Sl}
theorem c4[Tab V](hd:Ds.Ok V d)(hm:Mm.Ok V m)(ha:qAc V la 1 (xa.map qAm))(hb:qAc V lb 1 (xb.map qAm)){fu:Int}(hfu:0<=fu/\fu<=65535) :
  PP 4 [d.v,m.v,.agg #[.string na,la.v],.agg #[.string nb,lb.v],.int .u16 fu] V (.bool true):=by
 refine Pur.mk (x4 ?_)
 unfold w4
 first|unfold w4_0|skip
 obtain⟨a,rfl⟩:∃a:Nat,fu=(a:Int):=⟨fu.toNat,by omega⟩
 have hmod:((a:Int).tmod (601:Int))=((a % 601:Nat):Int):=(Int.ofNat_tmod a 601).symm
 obtain⟨F,hF⟩:∃F,F=a % 601:=⟨_,rfl⟩
 have hF6:F<=600:=by omega
 rw[hmod,<- hF]
 refine c6.call ⟨_,rfl,fun _=>⟨⟨by omega,by omega⟩,by decide,fun b0 h0=>?_⟩,fun h=>absurd rfl h⟩
 obtain⟨U,hU⟩:∃U,U=V.set b0 (.cells #[.int .i64 0,.string na,la.v,.int .i64 0,.int .i64 0,.int .i64 0,.string nb,lb.v,.int .i64 0,.int .i64 0] 50 (0,0)):=⟨_,rfl⟩
 have sU:V.sub U:=by rw[hU];exact Mem.sub_new h0 _
 have cU:U b0=some (.cells #[.int .i64 0,.string na,la.v,.int .i64 0,.int .i64 0,.int .i64 0,.string nb,lb.v,.int .i64 0,.int .i64 0] 50 (0,0)):=by rw[hU];exact Mem.set_same _ _ _
 erw [<- hU]
 haveI:Tab U:=Tab.sub (V:=V) inferInstance sU
 have hdU:=hd.sub sU
 have hmU:=hm.sub sU
 have fin:∀{V':Mem},V.sub V'->(Ending.returned (.bool true)=.returned (.bool true)/\V.sub V'):=fun h=>⟨rfl,h⟩
 refine Tri.mono (smallS hdU hmU (s:=⟨some ⟨b0,0,none⟩,2,2⟩) (cs:=[⟨0,na,la,0,0⟩,⟨0,nb,lb,0,0⟩]) (qAc.cells (row:=Stp.row) (xs:=[⟨0,na,la,0,0⟩,⟨0,nb,lb,0,0⟩]) cU rfl (fun _=>rfl) rfl (by simp))) ?_
 rintro _ V' ⟨e0,bb,rfl,-⟩
 rw[<- e0]
 refine⟨_,rfl,fun _=>?_,fun _=>fin sU⟩
 refine Tri.mono nilCall ?_
 rintro _ V' ⟨e1,rfl⟩
 rw[e1]
 refine⟨_,_,_,_,_,_,rfl,Tri.mono nilAtomic ?_⟩
 rintro _ V' ⟨e2,rfl⟩
 rw[e2]
 refine⟨_,_,_,_,_,_,rfl,nilRedo.call ⟨_,_,rfl,fun _=>⟨fun _=>⟨fun _=>⟨fun _=>⟨fun _=>⟨fun _=>nilUndo.call ⟨_,rfl,fun _=>nilMark.call ⟨_,rfl,fun _=>nilMarks.call ⟨_,rfl,fun _=>nilLogged.call ⟨_,rfl,fun _=>nilMemory.call ⟨qAv,qAv,rfl,fun _=>?_,fun h=>absurd rfl h⟩,fun h=>absurd rfl h⟩,fun h=>absurd rfl h⟩,fun h=>absurd rfl h⟩,fun h=>absurd rfl h⟩,fun h=>absurd rfl h⟩,fun h=>absurd rfl h⟩,fun h=>absurd rfl h⟩,fun h=>absurd ⟨rfl,rfl,rfl,rfl,rfl⟩ h⟩,fun h=>absurd rfl h⟩,fun h=>absurd ⟨rfl,rfl,rfl,rfl,rfl⟩ h⟩⟩
 refine Tri.mono (c8 hdU hmU) ?_
 rintro _ V1 (⟨hG,s1,rfl⟩|⟨G,p,d1,W,rfl,sW,hd1,SD1,S⟩)
 ·haveI:Tab V1:=Tab.sub (V:=U) inferInstance s1
  refine⟨_,_,rfl,Tri.mono (c8 (hdU.sub s1) (hmU.sub s1)) ?_⟩
  rintro _ V2 (⟨-,s2,rfl⟩|⟨G,-⟩)
  ·exact⟨_,_,rfl,fun h=>absurd h (by decide),fun _=>⟨fun _=>⟨fun _=>fin (sU.trans (s1.trans s2)),fun h=>absurd rfl h⟩,fun h=>absurd rfl h⟩⟩
  ·exact absurd G hG
 refine⟨_,_,rfl,Tri.mono (newTwo hdU hmU G sW hd1 S) ?_⟩
 rintro _ V2 ⟨q,d2,D,rfl,sD,o1,o2,SD2,T⟩
 refine⟨_,_,rfl,fun _=>⟨fun _=>?_,fun h=>absurd rfl h⟩,fun h=>absurd rfl h⟩
 haveI:Tab D:=Tab.sub (V:=U) inferInstance sD
 have sVD:=sU.trans sD
 have Q:Rdy D d m.plain ⟨p,d1,m.plain,[],[],((0:Nat):Int),qAv,qAv⟩ 0 0:=⟨rfl,SD1,o1,[m.plain],[],qGf.start (OkG.of G),rfl,rfl,Nat.le_refl _,Nat.le_refl _⟩
 have Q2:Rdy D d m.plain ⟨q,d2,m.plain,[],[],((0:Nat):Int),qAv,qAv⟩ 0 0:=⟨rfl,SD2,o2,[m.plain],[],qGf.start (OkG.of G),rfl,rfl,Nat.le_refl _,Nat.le_refl _⟩
 have done:∀V',D.sub V'->(Ending.returned (.bool true)=.returned (.bool true)/\V.sub V'):=fun V' h=>fin (sVD.trans h)
 have haD:=ha.sub sVD
 have hbD:=hb.sub sVD
 refine Tri.mono (qGX T Q (by decide) haD hF6) ?_
 rintro _ V3 ⟨u1,u2,u3,u4,u5,c1,s',rfl,T1,O1⟩
 refine⟨u1,u2,u3,u4,u5,c1,rfl,Tri.mono (twoCall T1.swap Q2 (by decide) haD hF6) ?_⟩
 rintro _ V4 ⟨w1,w2,w3,w4,w5,c2,t',rfl,T2,O2⟩
 obtain⟨hrow,hcode⟩:=O1.same O2 rfl
 simp only[List.cons.injEq,Value.int.injEq,true_and,and_true]at hrow
 have T2:=T2.swap
 refine⟨w1,w2,w3,w4,w5,c2,rfl,fun _=>⟨fun _=>⟨fun h47=>⟨fun h42=>?_,fun h42=>?_⟩,fun h47=>?_⟩,fun h=>absurd hcode h⟩,fun h=>absurd hrow h⟩
 ·have h47:c1=0:=h47
  have h42:u1=0:=h42
  rcases O1 with⟨a1,-,a3,-⟩|⟨a1,-,r,a3,a4,⟨-,a6,-⟩|⟨a5,a6,a7,a8,a9⟩⟩
  ·rw[h47]at a3;exact absurd a3.symm a1
  ·unfold qGn qCG at a4
   simp only[List.cons.injEq,Value.int.injEq,true_and]at a4
   exact absurd (a4.1.symm.trans h42) a6
  ·rcases O2 with⟨b1,-⟩|⟨-,-,r2,b3,-,⟨b5,-⟩|⟨b5,b6,b7,b8,b9⟩⟩
   ·exact absurd a1 b1
   ·cases b5
   ·have e:r2=r:=by rw[b3,a3]
    subst e
    have a6:s'.p=p:=a6
    have b6:t'.p=q:=b6
    rw[<- a6,<- b6]
    exact qHC (R:=fun e V'=>e=.returned (.bool true)/\V.sub V') T2 a8 b8 (by decide) (by decide) (a7.trans b7.symm) (by rw[a9,b9]) hbD hF6 done
 ·have h47:c1=0:=h47
  have h42:¬u1=0:=h42
  rcases O1 with⟨a1,-,a3,-⟩|⟨a1,-,r,a3,a4,⟨-,a6,rfl⟩|⟨a5,a6,a7,a8,a9⟩⟩
  ·rw[h47]at a3;exact absurd a3.symm a1
  ·rcases O2 with⟨b1,-⟩|⟨-,-,r2,b3,-,⟨b5,-⟩|⟨b5,b6,b7,b8,b9⟩⟩
   ·exact absurd a1 b1
   ·cases b5
   ·have b6:t'.p=q:=b6
    refine(twoMark T2 Q).call ⟨_,rfl,fun _=>(twoMarks T2 Q).call ⟨_,rfl,fun _=>?_,fun h=>absurd rfl h⟩,fun h=>absurd rfl h⟩
    refine Tri.mono (qGW T2 Q) ?_
    rintro _ V5 ⟨s5,m1,rfl,m1o,m1p⟩
    have T3:=T2.grow s5
    refine⟨m1.gs,m1.ns,rfl,(c22 (a:=m1) (b:=m) m1o (hm.sub (sVD.trans T3.sub))).call ⟨_,rfl,fun _=>?_,fun h=>absurd (decide_eq_true m1p) h⟩⟩
    obtain⟨W2,v1,-,S2,back⟩:=T3.snd
    have S2:SA W2 V5 t'.p t'.d t'.x t'.log t'.ends t'.k t'.lg t'.en:=S2
    rw[b8.hk]at S2
    obtain⟨k1,k2,k3,mems,logs,H,hx,hx0,hl,hlg⟩:=b8
    rw[<- b6]
    refine Tri.mono (c13 (j:=0) S2 H hx) ?_
    rintro _ V6 (⟨hno,-⟩|⟨n,hn,-,rfl,x',hx',S3⟩)
    ·exact absurd ⟨by decide,by omega⟩ hno
    obtain rfl:n=0:=by omega
    rw[hx0]at hx';cases hx'
    have T4:=back (t':=⟨t'.p,t'.d,m.plain,t'.log,t'.ends,((0:Nat):Int),t'.lg,t'.en⟩) S3
    have Q3:Rdy D d m.plain ⟨t'.p,t'.d,m.plain,t'.log,t'.ends,((0:Nat):Int),t'.lg,t'.en⟩ 0 1:=⟨rfl,k2,k3,mems,logs,H.move (Nat.zero_le _),hx0,hx0,hl,hlg⟩
    exact⟨_,rfl,fun _=>qHC (R:=fun e V'=>e=.returned (.bool true)/\V.sub V') T4 Q Q3 (by decide) (by decide) rfl rfl hbD hF6 done,fun h=>absurd rfl h⟩
  ·unfold qGn qCG at a4
   simp only[List.cons.injEq,Value.int.injEq,true_and]at a4
   exact absurd ⟨rfl,fun h=>h42 (a4.1.trans h)⟩ a5
 ·have h47:¬c1=0:=h47
  rcases O1 with⟨a1,-,-,rfl⟩|⟨-,a2,-⟩
  ·rcases O2 with⟨-,-,-,rfl⟩|⟨b1,-⟩
   ·exact qHC (R:=fun e V'=>e=.returned (.bool true)/\V.sub V') T2 Q Q2 (by decide) (by decide) rfl rfl hbD hF6 done
   ·exact absurd b1 a1
  ·exact absurd a2 h47
end
end Go.Proofs
namespace Go.Proofs.YtginfholjbbgeaaGreatDoor
open Go
set_option maxRecDepth 100000
theorem qEU{a b:Bool}(h:a=true)(k:b=true):(a&&b)=true:=by rw[h,k];rfl
theorem ratomic_j1:(Rows.rollbackAtomicRow.wf (OpenSpec.ofChange Rows.rollbackAtomicSpec))=true:=by kernel_rfl
theorem ratomic_j2:(laidOutB Tryz.prog)=true:=by kernel_rfl
theorem ratomic_j3:(mapsRowed Tryz.prog)=true:=by kernel_rfl
theorem ratomic_j4:(Tryz.f4.params.all (Tryz.prog.readableRec ·))=true:=by kernel_rfl
theorem ratomic_j5:(namedTie Tryz.prog Rows.rollbackAtomicRow.named Rows.rollbackAtomicSpec.vars)=true:=by kernel_rfl
theorem ratomic_j6:((Rows.rollbackAtomicRow.stops==[]))=true:=by kernel_rfl
theorem ratomic_j7:((Tryz.prog.stops==[]))=true:=by kernel_rfl
theorem ratomic_j8:((Rows.rollbackAtomicRow.knobs==[]))=true:=by kernel_rfl
theorem ratomic_j9:((Tryz.prog.stopKnobs==[]))=true:=by kernel_rfl
theorem ratomic_j10:((Rows.rollbackAtomicRow.inPlace==Tryz.prog.inPlace 4))=true:=by kernel_rfl
theorem ratomic_j11:((Rows.rollbackAtomicRow.unfollowed==Tryz.prog.unfollowed 4))=true:=by kernel_rfl
theorem ratomic_j12:((Rows.rollbackAtomicRow.recurses==Tryz.prog.recurses 4))=true:=by kernel_rfl
theorem ratomic_j13:((Rows.rollbackAtomicRow.named==Tryz.prog.varsNamed 4))=true:=by kernel_rfl
theorem ratomic_j14:((Rows.rollbackAtomicRow.maps==(Tryz.f4.params.toList++Rows.rollbackAtomicSpec.plain.varTypes Tryz.prog).any (Tryz.prog.mapsRec ·)))=true:=by kernel_rfl
theorem ratomic_j15:((Rows.rollbackAtomicRow.ifaces==(Tryz.f4.params.toList++Rows.rollbackAtomicSpec.plain.varTypes Tryz.prog).any (Tryz.prog.ifacesRec ·)))=true:=by kernel_rfl
theorem ratomic_j16:((Rows.rollbackAtomicRow.mapsOut==Tryz.prog.mapsAmong Tryz.f4.resultTypes.toList))=true:=by kernel_rfl
theorem ratomic_j17:((Rows.rollbackAtomicRow.loops==(Tryz.f4.params.toList++Rows.rollbackAtomicSpec.plain.varTypes Tryz.prog).any (Tryz.prog.loopsFrom ·)))=true:=by kernel_rfl
theorem ratomic_j18:((Rows.rollbackAtomicRow.wideKeys==(Tryz.f4.params.toList++Rows.rollbackAtomicSpec.plain.varTypes Tryz.prog++Tryz.f4.resultTypes.toList).any (Tryz.prog.wideKeysFrom ·)))=true:=by kernel_rfl
theorem ratomic_j19:(Rows.rollbackAtomicSpec.vars.all (Tryz.prog.varReadable ·))=true:=by kernel_rfl
theorem ratomic_j20:(Tryz.f4.resultTypes.all (fun t=>Tryz.prog.readableRec t&&decide (t<Tryz.prog.types.size)))=true:=by kernel_rfl
theorem ratomic_j21:((Rows.rollbackAtomicRow.ifacesOut==Tryz.f4.resultTypes.toList.any (Tryz.prog.ifacesRec ·)))=true:=by kernel_rfl
theorem ratomic_j22:((Rows.rollbackAtomicRow.loopsOut==Tryz.f4.resultTypes.toList.any (Tryz.prog.loopsFrom ·)))=true:=by kernel_rfl
theorem ratomic_j23:((Rows.rollbackAtomicRow.plainKeys==Tryz.prog.plainKeys))=true:=by kernel_rfl
theorem ratomic_j24:(Rows.rollbackAtomicRow.shortTexts.isNone)=true:=by kernel_rfl
theorem ratomic_j25:(Tryz.prog.stopsHeard)=true:=by kernel_rfl
theorem ratomic_j26:(Tryz.prog.mayEnter)=true:=by kernel_rfl
theorem ratomic_j27:((Rows.rollbackAtomicRow.lifted==Tryz.prog.liftsFinal))=true:=by kernel_rfl
theorem ratomic_j28:((Tryz.prog.make==some Rows.rollbackAtomicRow.make))=true:=by kernel_rfl
theorem ratomic_j29:((Rows.rollbackAtomicRow.kinds==(if Rows.rollbackAtomicRow.domain.isEmpty then [] else Tryz.f4.params.toList.map fun t=>match Tryz.prog.underlying t with|some (.int k)=>some k|_=>none)))=true:=by kernel_rfl
theorem ratomic_j30:((Rows.rollbackAtomicRow.pinned==Rows.rollbackAtomicRow.pinnedBy))=true:=by kernel_rfl
theorem ratomic_j31:((Rows.rollbackAtomicRow.veiled==(Tryz.f4.params.toList++Rows.rollbackAtomicSpec.plain.varTypes Tryz.prog++Tryz.f4.resultTypes.toList).any (Tryz.prog.veiledRec ·)))=true:=by kernel_rfl
theorem ratomic_j32:(Rows.rollbackAtomicRow.veiledFits Tryz.prog Tryz.f4.params.toList (Tryz.f4.params.toList++Rows.rollbackAtomicSpec.plain.varTypes Tryz.prog++Tryz.f4.resultTypes.toList))=true:=by kernel_rfl
theorem qJb:joinedFacts Tryz.prog 4 Tryz.f4 Rows.rollbackAtomicSpec Rows.rollbackAtomicRow=true:=(qEU (qEU (qEU (qEU (qEU (qEU (qEU (qEU (qEU (qEU (qEU (qEU (qEU (qEU (qEU (qEU (qEU (qEU (qEU (qEU (qEU (qEU (qEU (qEU (qEU (qEU (qEU (qEU (qEU (qEU (qEU ratomic_j1 ratomic_j2) ratomic_j3) ratomic_j4) ratomic_j5) ratomic_j6) ratomic_j7) ratomic_j8) ratomic_j9) ratomic_j10) ratomic_j11) ratomic_j12) ratomic_j13) ratomic_j14) ratomic_j15) ratomic_j16) ratomic_j17) ratomic_j18) ratomic_j19) ratomic_j20) ratomic_j21) ratomic_j22) ratomic_j23) ratomic_j24) ratomic_j25) ratomic_j26) ratomic_j27) ratomic_j28) ratomic_j29) ratomic_j30) ratomic_j31) ratomic_j32)
end Go.Proofs.YtginfholjbbgeaaGreatDoor
