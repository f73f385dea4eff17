/- Part 19 of a proof of a law of this seat: no statement of the seat is proved here. -/
import Derived.Test.YtginfholjbbgeaaGreatDoorPart18
import Derived.Test.YtginfholjbbgeaaGreatDoorPart14
import Derived.Test.YtginfholjbbgeaaGreatDoorPart16
set_option linter.unusedVariables false
set_option linter.unusedSimpArgs false
namespace Go.Proofs
open Go Go.Sx
attribute [local irreducible] Go.Sx.Tri
section
variable{V0 V W:Mem}{p1 p2 p3 p4:Nat}{x y d:Ds}
theorem CS.but(h:CS V0 p1 p2 p3 p4 x V)(k:CS V0 p1 p2 p3 p4 y W){s:Sl}(hn:∀c,Blk s c->W c=none):CS V0 p1 p2 p3 p4 x (V.but s):=by
 have nb:∀{c:Nat} {o:Obj},W c=some o->¬Blk s c:=fun hc hb=>by simp_all
 have go:∀{c:Nat} {o o':Obj},qGo V p1 p2 c=some o->qGo W p1 p2 c=some o'->qGo (V.but s) p1 p2 c=some o:=fun {c o o'} hc hw=>by
  grind [qFx,qGd,Mem.but_at]
 obtain⟨t1,f1⟩:=h.fe
 obtain⟨t2,f2⟩:=h.fs
 obtain⟨t1',f1'⟩:=k.fe
 obtain⟨t2',f2'⟩:=k.fs
 obtain⟨z,z1,z2⟩:=h.at2
 obtain⟨z',z1',-⟩:=k.at2
 exact⟨fun c o hc=>go (h.base _ _ hc) (k.base _ _ hc),⟨t1,go f1 f1'⟩,⟨t2,go f2 f2'⟩,Mem.but_at h.at1 (nb k.at1),⟨z,Mem.but_at z1 (nb z1'),z2⟩,h.ne⟩
theorem CS.sub(h:CS V0 p1 p2 p3 p4 x V):V0.sub V:=h.base.trans qKC
theorem CS.p1n(h:CS V0 p1 p2 p3 p4 x V):V p1≠none:=by rw[h.at1];simp
theorem CS.p2n(h:CS V0 p1 p2 p3 p4 x V):V p2≠none:=by obtain⟨y,h1,-⟩:=h.at2;rw[h1];simp
theorem CS.read(h:CS V0 p1 p2 p3 p4 x V){j n:Nat}(hj:j+n<=8):V.rowp (sa p1) j n=some ((x.row.drop j).take n):=qAc h.at1 j n hj
theorem copyC{V:Mem}(hd:Ds.Ok V0 d)(hv:qAK d=true)(hb:V0.sub (qGo V p1 p2))(hf:FnE (qGo V p1 p2) p3){t4:Nat}(h4:V p4=some (cell .nilFunc t4))(h40:V0 p4=none)(n41:p4≠p1)(n42:p4≠p2)(n43:p4≠p3)(h1:V p1=some (.cells d.row.toArray 30 (0,0)))(h2:∃y,V p2=some (.cells y 30 (0,0))/\y.size=8)(ne:p1≠p2) :
  Seg Tryz.prog 82 c31c [(1,pv p1),(2,pv p2),(3,pv p3),(4,pv p4)] [2] V fun vs V'=>vs=[pv p2]/\∃d':Ds,V' p2=some (.cells d'.row.toArray 30 (0,0))/\V0.sub V'/\Ds.Ok V' d'/\qEF d d':=by
 refine s31c ?_
 obtain⟨l1,l2,l3,l4,l5⟩:=valid_small hv
 obtain⟨R,hR⟩:∃R:Ending->Mem->Prop,R=fun e V'=>∃vs:List Value,e=.returned (.tuple vs.toArray)/\vs=[pv p2]/\∃d':Ds,V' p2=some (.cells d'.row.toArray 30 (0,0))/\V0.sub V'/\Ds.Ok V' d'/\qEF d d':=⟨_,rfl⟩
 show w31c _ _ _ _ _ (fun e V'=>∃vs:List Value,e=.returned (.tuple vs.toArray)/\vs=[pv p2]/\∃d':Ds,V' p2=some (.cells d'.row.toArray 30 (0,0))/\V0.sub V'/\Ds.Ok V' d'/\qEF d d')
 rw[<- hR]
 unfold w31c
 refine StT.cell h4 ?_
 have q1:∀{c:Nat} {o:Obj},qGo V p1 p2 c=some o->c≠p4->qGo (V.set p4 (Go.Sx.cell (.func (.func 53) #[] #[pv p3,pv p4]) t4)) p1 p2 c=some o:=fun {c o} hc hn=>by
  grind [qFx,qGd,Mem.set_ne]
 have C3:CS V0 p1 p2 p3 p4 d (V.set p4 (Go.Sx.cell (.func (.func 53) #[] #[pv p3,pv p4]) t4)):=by
  refine⟨fun c o hc=>q1 (hb _ _ hc) fun e=>(by simp_all),?_,⟨t4,qGd mss n41 n42⟩,by grind [Mem.set_ne],?_,ne⟩
  ·obtain⟨t,hf⟩:=hf;exact⟨t,q1 hf n43.symm⟩
  grind [Mem.set_ne]
 show ¬_/\_
 generalize V.set p4 _=V3 at C3 ⊢
 -- the types
 refine⟨nn,d.ts,C3.read (j:=1) (n:=1) (by decide),Tri.mono (c55 (hd.types.sub C3.sub) (by omega)) ?_⟩
 rintro _ V4 ⟨ts,rfl,o4⟩
 have C4:=C3.grow o4.sub
 refine⟨ts,rfl,nn,C4.st (j:=1) (by decide) { d with ts:=ts } rfl fun V5 e5 C5 _=>?_⟩
 have hn4:∀c,Blk ts c->V3 c=none:=fun c hc=>Own.none0 o4 hc
 have Cb:=C5.but C3 hn4
 have o5:Sx.Own (V5.but ts) V5 132 2 ts (d.types.flatMap Ty.row):=own_self o4 fun g hg=>by
  rw[e5];exact Mem.set_ne fun e:g=p1=>C3.p1n (by simp_all)
 refine⟨nn,ts,C5.read (j:=1) (n:=1) (by decide),qGC d.types.length (fun i V6=>Prt Ty.row 132 2 Ty.Ok tEr (V5.but ts) ts d.types i V6 V6) (Prt.start o5) ?_⟩
 rintro i V6 J hi P hJ
 have hn:=P.n qEl (by decide) hi
 have C6:=Cb.grow P.sub
 refine⟨fun hlt=>?_,fun hge=>?_⟩
 ·have hlt:(i:Int)<(ts.n:Int):=hlt
  have hil:i<d.types.length:=by omega
  obtain⟨x,hx⟩:∃x,d.types[i]?=some x:=⟨_,List.getElem?_eq_getElem hil⟩
  have hxm:=List.mem_of_getElem? hx
  obtain⟨hp,h0,hl,hrow,hI⟩:=P.get qEl (by decide) hx
  have hq:=qAe (n:=i*2) hp
  refine⟨nn,ts,C6.read (j:=1) (n:=1) (by decide),nn,ts,C6.read (j:=1) (n:=1) (by decide),hp,h0,hl,hq,_,_,hrow,Tri.mono (c56 ((hd.typesOk x hxm).fields.sub C6.sub) (by grind)) ?_⟩
  rintro _ V7 ⟨fs',rfl,o7⟩
  have C7:=C6.grow o7.sub
  refine⟨fs',rfl,qAD C7.at1 1 0 1 (by simp[Ds.row]),nn,hp,h0,hl,hq,?_⟩
  show StT (qAa (qAa ts.p (i*2)) 1) 0 _ V7 _
  rw[qBN]
  refine Prt.part (j:=1) (vs:=[fs'.v]) qEl ⟨x.name,fs',x.fields⟩ ((P.grow o7.sub).self hx) hil (by simp) (by simp) rfl rfl fun V8 P8 hk8=>⟨hI,hJ hil _ (Prt.succ (ok:=Ty.Ok) tOkM P8 hx ⟨(qHA qEQ (by decide) o7).sub (P.fresh (.inl (Mem.sub.refl _)) (fun c hc=>by obtain⟨cur,h⟩:=(P.blk hc).2;rw[h];simp) fun c o hc hb=>by simp_all)⟩ rfl)⟩
 have hge:¬(i:Int)<(ts.n:Int):=hge
 have hkl:d.types.length<=i:=by omega
 obtain⟨types',t1,t2,t3⟩:=Prt.fin (ok:=Ty.Ok) tOkM qEl (by decide) P hkl
 have d6:=duo_new (A:=V5.but ts) (B:=V6) (V:=V6) (Mem.sub.refl _) Cb.p1n Cb.p2n
 have T6:=t1.sub d6
 have U6:=fun t m=>(t2 t m).sub d6
 clear t1 t2 d6 P hJ
 -- the global variables
 refine⟨nn,d.gs,C6.read (j:=2) (n:=1) (by decide),Tri.mono (c56 (hd.globals.sub C6.sub) (by omega)) ?_⟩
 rintro _ V7 ⟨gs,rfl,o7⟩
 have C7:=C6.grow o7.sub
 refine⟨gs,rfl,nn,C7.st (j:=2) (by decide) { d with ts:=ts,gs:=gs } rfl fun V8 e8 C8 m8=>?_⟩
 have G8:=(qHA qEQ (by decide) o7).sub ((duo_new (Mem.sub.refl _) C6.p1n C6.p2n).trans m8)
 have s68:=(qGc o7.sub).trans m8
 have T8:=T6.sub s68
 have U8:=fun t m=>(U6 t m).sub s68
 clear T6 U6
 -- the procedures
 refine⟨nn,d.ps,C8.read (j:=3) (n:=1) (by decide),Tri.mono (c57 (hd.procs.sub C8.sub) (by omega)) ?_⟩
 rintro _ V9 ⟨ps,rfl,o9⟩
 have C9:=C8.grow o9.sub
 refine⟨ps,rfl,nn,C9.st (j:=3) (by decide) { d with ts:=ts,gs:=gs,ps:=ps } rfl fun V10 e10 C10 m10=>?_⟩
 have hn9:∀c,Blk ps c->V8 c=none:=fun c hc=>Own.none0 o9 hc
 have Cc:=C10.but C8 hn9
 have o10:Sx.Own (V10.but ps) V10 121 5 ps (d.procs.flatMap Pr.row):=own_self o9 fun g hg=>by
  rw[e10];exact Mem.set_ne fun e:g=p1=>C8.p1n (by simp_all)
 have sB:(qGo V8 p1 p2).sub (qGo (V10.but ps) p1 p2):=fun c o hc=>by
  obtain⟨a,b,e⟩:=qFx hc
  refine qGd (Mem.but_at ?_ fun h=>by simp_all) b e
  rw[e10,Mem.set_ne b];exact o9.sub _ _ a
 have TB:=T8.sub sB
 have GB:=G8.sub sB
 have UB:=fun t m=>(U8 t m).sub sB
 clear T8 G8 U8 sB m10 o9
 refine⟨nn,ps,C10.read (j:=3) (n:=1) (by decide),qGC d.procs.length (fun i V11=>Prt Pr.row 121 5 Pr.Ok pEr (V10.but ps) ps d.procs i V11 V11) (Prt.start o10) ?_⟩
 rintro i V11 J hi P hJ
 have hn:=P.n qCy (by decide) hi
 have C11:=Cc.grow P.sub
 refine⟨fun hlt=>?_,fun hge=>?_⟩
 ·have hlt:(i:Int)<(ps.n:Int):=hlt
  have hil:i<d.procs.length:=by omega
  obtain⟨x,hx⟩:∃x,d.procs[i]?=some x:=⟨_,List.getElem?_eq_getElem hil⟩
  have hxm:=List.mem_of_getElem? hx
  obtain⟨hp,h0,hl,hrow,hI⟩:=P.get qCy (by decide) hx
  have hq:=qAe (n:=i*5) hp
  obtain⟨x1,x2,x3⟩:=l5 x hxm
  have hxo:=hd.procsOk x hxm
  obtain⟨tS,hfS⟩:=C11.fs.sub qKC
  have gt:∀{U:Mem},V11.sub U->U.rowp ps.p (i*5) 5=some [Go.Sx.vS x.name,x.ps.v,Go.Sx.vS x.result,x.ls.v,x.bs.v]:=fun hs=>((P.grow hs).get qCy (by decide) hx).2.2.2.1
  have fn:∀{U:Mem},V11.sub U->U.rowp (sa p4) 0 1=some [.func (.func 53) #[] #[pv p3,pv p4]]:=fun hs=>qAc (hs _ _ hfS) 0 1 (by simp)
  refine⟨nn,ps,C11.read (j:=3) (n:=1) (by decide),hp,h0,hl,hq,hq,_,_,_,_,_,hrow,hq,hq,_,_,_,_,_,hrow,.func (.func 53) #[] #[pv p3,pv p4],rfl,fn (Mem.sub.refl _),hq,hq,_,_,_,_,_,hrow,Tri.mono (c56 (hxo.params.sub C11.sub) (by omega)) ?_⟩
  rintro _ V12 ⟨pa,rfl,o12⟩
  have s12:=o12.sub
  refine⟨pa,rfl,qFM (j:=4) (gt s12) (by decide) (by decide) rfl,hq,hq,fn s12,qFM (j:=3) (gt s12) (by decide) (by decide) rfl,hq,hq,Tri.mono (c56 (hxo.locals.sub (C11.sub.trans s12)) (by omega)) ?_⟩
  rintro _ V13 ⟨lo,rfl,o13⟩
  have s13:=s12.trans o13.sub
  refine⟨lo,rfl,qFM (j:=4) (gt s13) (by decide) (by decide) rfl,hq,hq,fn s13,53,#[],#[pv p3,pv p4],rfl,Tryz.call53,?_⟩
  have s03:=C11.sub.trans s13
  refine Tri.mono (copyS _ x.body rfl x3 (hxo.body.sub s03) (fun s m=>(hxo.stmts s m).sub s03) ((C11.fe.sub qKC).sub s13) ((C11.fs.sub qKC).sub s13)) ?_
  rintro _ V14 ⟨bo,body',rfl,s14,b1,b2,b3⟩
  have P14:=(P.grow (s13.trans s14)).self hx
  refine⟨bo,rfl,hq,hq,?_⟩
  show StT (qAa (qAa ps.p (i*5)) 1) 0 _ V14 _
  rw[qBN]
  refine Prt.part (j:=1) (vs:=[pa.v]) qCy ⟨x.name,pa,x.params,x.result,x.ls,x.locals,x.bs,x.body⟩ P14 hil (by simp) (by simp) rfl rfl fun V15 P15 hk15=>⟨hq,hq,?_⟩
  show StT (qAa (qAa ps.p (i*5)) 3) 0 _ V15 _
  rw[qBN]
  refine Prt.part (j:=3) (vs:=[lo.v]) qCy ⟨x.name,pa,x.params,x.result,lo,x.locals,x.bs,x.body⟩ P15 hil (by simp) (by simp) rfl rfl fun V16 P16 hk16=>⟨hq,hq,?_⟩
  show StT (qAa (qAa ps.p (i*5)) 4) 0 _ V16 _
  rw[qBN]
  refine Prt.part (j:=4) (vs:=[bo.v]) qCy ⟨x.name,pa,x.params,x.result,lo,x.locals,bo,body'⟩ P16 hil (by simp) (by simp) rfl rfl fun V17 P17 hk17=>⟨hI,hJ hil _ (Prt.succ (ok:=Pr.Ok) pOkM P17 hx ?_ ?_)⟩
  ·have k17:∀c o,V14 c=some o->¬Blk ps c->V17 c=some o:=fun c o hc hb=>by simp_all
   have nb:∀c,Blk ps c->V11 c≠none:=fun c hc=>by obtain⟨cur,h⟩:=(P.blk hc).2;rw[h];simp
   have some_up:∀{A:Mem},V11.sub A->∀c,Blk ps c->A c≠none:=fun {A} hs c hc=>by
    obtain⟨cur,h⟩:=(P.blk hc).2
    rw[hs _ _ h];simp
   have f1:=P.fresh (U:=V11) (U2:=V12) (U3:=V17) (.inl (Mem.sub.refl _)) nb fun c o hc hb=>k17 c o (s14 _ _ (o13.sub _ _ hc)) hb
   have f2:=P.fresh (U:=V12) (U2:=V13) (U3:=V17) (.inl s12) (some_up s12) fun c o hc hb=>k17 c o (s14 _ _ hc) hb
   have f3:=P.fresh (U:=V13) (U2:=V14) (U3:=V17) (.inl s13) (some_up s13) k17
   exact⟨(qHA qEQ (by decide) o12).sub f1,(qHA qEQ (by decide) o13).sub f2,b1.sub f3,fun s m=>(b2 s m).sub f3⟩
  grind [pEr,qHw,sEr]
 have hge:¬(i:Int)<(ps.n:Int):=hge
 have hkl:d.procs.length<=i:=by omega
 obtain⟨procs',r1,r2,r3⟩:=Prt.fin (ok:=Pr.Ok) pOkM qCy (by decide) P hkl
 have d11:=duo_new (A:=V10.but ps) (B:=V11) (V:=V11) (Mem.sub.refl _) Cc.p1n Cc.p2n
 have sB:=qGc (p1:=p1) (p2:=p2) P.sub
 -- the conditions
 refine⟨nn,C11.st (j:=4) (s:=qAt) (by decide) { d with ts:=ts,gs:=gs,ps:=ps,ms:=qAt } rfl fun V12 _ C12 m12=>⟨nn,C12.st (j:=5) (s:=qAt) (by decide) { d with ts:=ts,gs:=gs,ps:=ps,ms:=qAt,is:=qAt } rfl fun V13 _ C13 m13=>⟨nn,C13.st (j:=6) (s:=qAt) (by decide) { d with ts:=ts,gs:=gs,ps:=ps,ms:=qAt,is:=qAt,qs:=qAt } rfl fun V14 _ C14 m14=>⟨nn,C14.st (j:=7) (s:=qAt) (by decide) { d with ts:=ts,gs:=gs,ps:=ps,ms:=qAt,is:=qAt,qs:=qAt,bs:=qAt } rfl fun V15 _ C15 m15=>⟨_,_,_,_,_,_,_,_,C15.read (j:=0) (n:=8) (by decide),?_⟩⟩⟩⟩⟩
 obtain⟨y,y1,y2⟩:=C15.at2
 refine StT.at_ (off:=0) y1 (by simp_all) ?_
 have m115:=m12.trans (m13.trans (m14.trans m15))
 have e0:((y.toList.take 0++[Go.Sx.vS d.name,ts.v,gs.v,ps.v,qAt.v,qAt.v,qAt.v,qAt.v]++y.toList.drop (0+[Go.Sx.vS d.name,ts.v,gs.v,ps.v,qAt.v,qAt.v,qAt.v,qAt.v].length)).toArray:Array Value)=({ d with ts:=ts,gs:=gs,ps:=ps,ms:=qAt,is:=qAt,qs:=qAt,bs:=qAt }:Ds).row.toArray:=by
  grind [Ds.row]
 have sF:(qGo V15 p1 p2).sub (V15.set p2 (.cells (y.toList.take 0++[Go.Sx.vS d.name,ts.v,gs.v,ps.v,qAt.v,qAt.v,qAt.v,qAt.v]++y.toList.drop (0+[Go.Sx.vS d.name,ts.v,gs.v,ps.v,qAt.v,qAt.v,qAt.v,qAt.v].length)).toArray 30 (0,0))):=fun c o hc=>by
  grind [qFx,Mem.set_ne]
 have sB2:=sB.trans (m115.trans sF)
 have d2:=d11.trans (m115.trans sF)
 rw[hR]
 refine⟨_,rfl,rfl,⟨d.name,ts,types',gs,d.globals,ps,procs',qAt,[],qAt,[],qAt,[],qAt,[]⟩,?_,C15.base.trans sF,⟨TB.sub sB2,fun t m=>(UB t m).sub sB2,GB.sub sB2,r1.sub d2,fun t m=>(r2 t m).sub d2,qAd.nil,(fun _ h=>by cases h),qAd.nil,(fun _ h=>by cases h),qAd.nil,(fun _ h=>by cases h),qAd.nil,fun _ h=>by cases h⟩,⟨?_,rfl,rfl,rfl,rfl⟩⟩
 ·show (V15.set p2 _) p2=_
  rw[Mem.set_same]
  exact congrArg (fun c=>some (Obj.cells c 30 (0,0))) e0
 grind [dEr,tEr,pEr]
end
theorem copied_flat:flat (qAp Tryz.f31)=c31a++(c31b++(c31c++[.ret])):=by kernel_rfl
theorem c31{V:Mem}{d:Ds}(hd:Ds.Ok V d)(hv:qAK d=true):Tri Tryz.prog 31 #[d.v] V fun e V'=>∃d':Ds,e=.returned d'.v/\V.sub V'/\Ds.Ok V' d'/\qEF d d':=by
 refine qEm (c:=qAp Tryz.f31) Tryz.func31 (by kernel_rfl) ?_
 intro w hV
 rw[copied_flat]
 have hA:Seg Tryz.prog 82 c31a [(0,d.v)] [1,2,3] V fun vs V1=>∃p1 p2 p3,vs=[pv p1,pv p2,pv p3]/\V p1=none/\V p2=none/\V p3=none/\V.sub V1/\p1≠p2/\p3≠p1/\p3≠p2/\V1 p1=some (.cells d.row.toArray 30 (0,0))/\(∃y,V1 p2=some (.cells y 30 (0,0))/\y.size=8)/\∃t,V1 p3=some (cell .nilFunc t):=by
  refine s31a (a:=d.name) (b:=d.ts) (c:=d.gs) (d:=d.ps) (g:=d.ms) (i:=d.is) (j:=d.qs) (k:=d.bs) ?_
  unfold w31a
  intro p1 h1 p2 h2 p3 h3
  have s1:=Mem.sub_new h1 (.cells #[.string d.name,d.ts.v,d.gs.v,d.ps.v,d.ms.v,d.is.v,d.qs.v,d.bs.v] 30 (0,0))
  have n12:p1≠p2:=fun e=>by grind [absurd,Mem.set_same]
  have n23:p3≠p2:=fun e=>by grind [absurd,Mem.set_same]
  have h2':=free s1 h2
  have s2:=Mem.sub_new h2 (.cells #[.string (qAl []),qAt.v,qAt.v,qAt.v,qAt.v,qAt.v,qAt.v,qAt.v] 30 (0,0))
  have h3':=free (s1.trans s2) h3
  have s3:=Mem.sub_new h3 (cell .nilFunc 127)
  have n13:p3≠p1:=fun e=>by
   have:=s2 _ _ (Mem.set_same V p1 (.cells #[.string d.name,d.ts.v,d.gs.v,d.ps.v,d.ms.v,d.is.v,d.qs.v,d.bs.v] 30 (0,0)))
   have h3:=free (Mem.sub.refl _) h3
   rw[e]at h3
   exact absurd (this.symm.trans h3) (by simp)
  exact⟨_,rfl,p1,p2,p3,rfl,h1,h2',h3',s1.trans (s2.trans s3),n12,n13,n23,(s2.trans s3) _ _ mss,⟨_,s3 _ _ mss,rfl⟩,⟨_,Mem.set_same _ _ _⟩⟩
 refine hA.step hV (qFZ (args:=[d.v]) (N:=82) (by simp)) ?_
 rintro a1 w1 vs V1 hd1 hH1 ⟨p1,p2,p3,rfl,z1,z2,z3,s1,n12,n31,n32,c1,c2,t3,c3⟩ hF1
 have hB:Seg Tryz.prog 82 c31b [(1,pv p1),(2,pv p2),(3,pv p3)] [1,2,3,4] V1 fun vs V2=>∃p4,vs=[pv p1,pv p2,pv p3,pv p4]/\V.sub (qGo V2 p1 p2)/\FnE (qGo V2 p1 p2) p3/\V2 p1=some (.cells d.row.toArray 30 (0,0))/\(∃y,V2 p2=some (.cells y 30 (0,0))/\y.size=8)/\V p4=none/\p4≠p1/\p4≠p2/\p4≠p3/\∃t,V2 p4=some (cell .nilFunc t):=by
  refine s31b ?_
  unfold w31b
  refine StT.cell c3 fun p4 h4=>?_
  obtain⟨U,hU⟩:∃U,U=V1.set p3 (cell (.func (.func 51) #[] #[pv p3]) t3):=⟨_,rfl⟩
  have h4:U p4=none:=by rw[hU];exact h4
  have e1:U p1=some (.cells d.row.toArray 30 (0,0)):=by rw[hU,Mem.set_ne n31.symm];exact c1
  have e3:U p3=some (cell (.func (.func 51) #[] #[pv p3]) t3):=by rw[hU,Mem.set_same]
  obtain⟨y,y1,y2⟩:=c2
  have e2:U p2=some (.cells y 30 (0,0)):=by rw[hU,Mem.set_ne n32.symm];exact y1
  have eV:V.sub U:=fun c o hc=>by rw[hU,Mem.set_ne fun e=>by simp_all];exact s1 _ _ hc
  have n:∀{c:Nat} {o:Obj},U c=some o->p4≠c:=fun hc e=>by simp_all
  refine⟨_,rfl,p4,rfl,?_⟩
  show V.sub (qGo (V1.set p3 _ |>.set p4 _) p1 p2)/\_
  erw [<- hU]
  have s4:=Mem.sub_new h4 (cell .nilFunc 129)
  exact⟨fun c o hc=>qGd (s4 _ _ (eV _ _ hc)) (fun e=>by simp_all) fun e=>(by simp_all),⟨t3,qGd (s4 _ _ e3) n31 n32⟩,s4 _ _ e1,⟨y,s4 _ _ e2,y2⟩,free eV h4,n e1,n e2,n e3,⟨_,Mem.set_same _ _ _⟩⟩
 refine hB.step hF1.le hH1 ?_
 rintro a2 w2 vs V2 hd2 hH2 ⟨p4,rfl,b1,b2,b3,b4,b5,b6,b7,b8,t4,b9⟩ hF2
 refine(copyC hd hv b1 b2 b9 b5 b6 b7 b8 b3 b4 n12).step hF2.le hH2 ?_
 rintro a3 w3 vs V3 hd3 hH3 ⟨rfl,d',g1,g2,g3,g4⟩ hF3
 show Code.wpIn (qAG none) 0 Tryz.prog .ret _ a3 w3
 refine wpIn_ret ?_
 refine⟨.inr rfl,[],by simp_all,List.nodup_nil,V3,(hF1.trans hF2).trans hF3,(fun D h=>by cases h),d'.v,fun w6 hw6=>results_desc (hH3.get rfl) (hw6 _ _ g1),d',rfl,g2,g3,g4⟩
theorem c32{V:Mem}{m:Mm}(hm:Mm.Ok V m)(h1:m.globals.length<=2147483648)(h2:m.nodes.length<=4096)(h3:∀n∈m.nodes,n.f.length<=2147483648):Tri Tryz.prog 32 #[m.v] V fun e V'=>∃gs ns nd,e=.returned (.agg #[.slice gs.p gs.n gs.c,.slice ns.p ns.n ns.c])/\Lay V V' gs ns qAt nd (qDM m):=by
 refine x32 ?_
 unfold w32
 refine Tri.mono (c58 hm.globals h1) ?_
 rintro _ V1 ⟨gs,rfl,o1⟩
 refine⟨gs,rfl,loop3u (mk:=fun s:Sl=>.slice s.p s.n s.c) (mc:=fun s:Sl=>.slice s.p s.n s.c) (b0:=gs) (c0:=⟨none,0,0⟩) qBD qBD m.nodes.length (fun i b ns V2=>b=gs/\∃nd,Lay V V2 gs ns qAt nd ⟨m.globals,(m.nodes.take i).map fun n=>(n.ty,n.f),0,0,[]⟩/\nd.length=i) ⟨rfl,[],⟨o1,Own.nil o1.sub _ _,Own.nil o1.sub _ _,(fun n hn=>by cases hn),rfl,(fun n hn=>by cases hn),(fun i j n n' c h=>by cases h)⟩,rfl⟩ ?_⟩
 rintro i b ns V2 J hi ⟨rfl,nd,L,hnl⟩ hJ
 have hr:=hm.nodes.sub L.sub
 refine⟨fun hlt=>?_,fun hge=>?_⟩
 ·obtain⟨x,hxm,hx,-,hil,hp,hz,hrow⟩:=hr.get hlt
  refine⟨hp,hz,hlt,x.ty,x.sl,hrow,Tri.mono (c58 ((hm.nodesOk x hxm).rows.sub L.sub) (h3 x hxm)) ?_⟩
  rintro _ V3 ⟨fs,rfl,o3⟩
  refine⟨fs,rfl,fun tb htb=>L.new (n:=⟨x.ty,fs,x.f⟩) o3 htb rfl rfl (by omega) fun s' V' L' _=>⟨s',rfl,hr.succ hlt,hJ hil _ _ _ ⟨rfl,nd++[⟨x.ty,fs,x.f⟩],?_,by simp_all⟩⟩⟩
  grind [List.take_add_one]
 ·have hd:=(hr.done hge).2
  rw[List.take_of_length_le hd]at L
  exact⟨b,ns,nd,rfl,L⟩
def qEf(e:En):List Value:=[.int .i64 e.node,.int .i64 e.field,.int .i64 e.old,.int .i64 e.new,.bool e.al,.int .i64 e.typ,.int .i64 e.size]
def qEc(n:Nat):List Value:=[.int .i64 n]
theorem qCM(e:En):(qEf e).length=7:=rfl
theorem qCo(n:Nat):(qEc n).length=1:=rfl
theorem app86:AppP 86 101 7 qEf:=appG Tryz.underlying86 (by kernel_rfl) (by kernel_rfl) (by kernel_rfl) (by kernel_rfl) (by kernel_rfl) (by decide) qCM fun x u hu=>by simp only[qEf,List.mem_cons,List.not_mem_nil,or_false]at hu;rcases hu with rfl|rfl|rfl|rfl|rfl|rfl|rfl <;> rfl
theorem appN:AppP 31 3 1 qEc:=appG Tryz.underlying31 (by kernel_rfl) (by kernel_rfl) (by kernel_rfl) (by kernel_rfl) (by kernel_rfl) (by decide) qCo fun x u hu=>by simp only[qEc,List.mem_cons,List.not_mem_nil,or_false]at hu;subst hu;rfl
theorem rows_cut{α:Type}{V:Mem}{s:Sl}{sz:Nat}{row:α->List Value}{xs:List α}(h:qAd V s sz (xs.map row)){lo hi:Nat}(h1:lo<=hi)(h2:hi<=xs.length):qAd V ⟨if s.c=lo then s.p else qAa s.p (lo*sz),hi-lo,s.c-lo⟩ sz (((xs.drop lo).take (hi-lo)).map row):=by
 have hn:=h.n_eq
 have hc:=h.cap
 refine⟨?_,?_,?_,fun r hr=>?_,fun i r hr=>?_⟩
 ·grind
 ·grind
 ·have:=h.fit;grind
 ·obtain⟨x,hx,rfl⟩:=List.mem_map.1 hr
  exact h.size _ (List.mem_map.2 ⟨x,List.mem_of_mem_drop (List.mem_of_mem_take hx),rfl⟩)
 ·rw[List.getElem?_map,List.getElem?_take]at hr
  split at hr
  ·rename_i hi'
   rw[List.getElem?_drop]at hr
   obtain⟨a,ha,hrow⟩:=h.at_ (lo+i) r (by simp_all)
   refine⟨a.add (lo*sz),?_,?_⟩
   ·grind [qAa]
   grind [add_add,Nat.add_mul]
  ·cases hr
def qGQ(d:Ds)(gs ns lg en:Sl)(k:Int):List Value:=[Go.Sx.vS d.name,d.ts.v,d.gs.v,d.ps.v,d.ms.v,d.is.v,d.qs.v,d.bs.v,gs.v,ns.v,lg.v,en.v,.int .i64 k]
def gst(x:Gm):St:=⟨x.1,x.2,0,0,[]⟩
structure SAt (V0 V:Mem) (p:Nat) (d:Ds) (x:Gm) (log:List En) (ends:List Nat) (k:Int) (lg en gs ns:Sl) (nd:List Nd):Prop where
 at_:V p=some (.cells (qGQ d gs ns lg en k).toArray 88 (0,0))
 lay:Lay V0 V gs ns qAt nd (gst x)
 lgo:Sx.Own V0 V 101 7 lg (log.flatMap qEf)
 eno:Sx.Own V0 V 3 1 en (ends.flatMap qEc)
 eg:∀c,Blk en c->¬Blk gs c
 ef:∀n∈nd,∀c,Blk en c->¬Blk n.sl c
def SA(V0 V:Mem)(p:Nat)(d:Ds)(x:Gm)(log:List En)(ends:List Nat)(k:Int)(lg en:Sl):Prop:=V0 p=none/\∃gs ns nd,SAt V0 V p d x log ends k lg en gs ns nd
theorem qFo:NT 88/\88≠101/\NT 101:=by unfold NT;decide
section
variable{V0 V V':Mem}{p:Nat}{d:Ds}{x x':Gm}{log:List En}{ends:List Nat}{k:Int}{lg en gs ns:Sl}{nd nd':List Nd}
theorem SAt.read(S:SAt V0 V p d x log ends k lg en gs ns nd){j n:Nat}(hj:j+n<=13):V.rowp (sa p) j n=some (((qGQ d gs ns lg en k).drop j).take n):=qAc S.at_ j n hj
theorem SAt.alien(S:SAt V0 V p d x log ends k lg en gs ns nd):qJa V p:=qBU S.at_ qFo.1
theorem SAt.notLg(S:SAt V0 V p d x log ends k lg en gs ns nd):¬Blk lg p:=S.lgo.apart fun cur hc=>by
 rw[S.at_]at hc
 simp_all
theorem SAt.lgN(S:SAt V0 V p d x log ends k lg en gs ns nd){e sz:Nat}{s:Sl}{vs:List Value}(o:Sx.Own V0 V e sz s vs)(he:e=3∨e=104∨e=98){c:Nat}(hc:Blk lg c):¬Blk s c:=fun hs=>by
 obtain⟨cur,h1⟩:=Own.some S.lgo hc
 exact o.apart (qBU h1 qFo.2.2 · e he) hs
theorem SAt.put(S:SAt V0 V p d x log ends k lg en gs ns nd)(p0:V0 p=none){k':Int}{c:Array Value}(hc:c=(qGQ d gs ns lg en k').toArray):SAt V0 (V.set p (.cells c 88 (0,0))) p d x log ends k' lg en gs ns nd :=
 ⟨by rw[Mem.set_same,hc],S.lay.put S.alien p0 _,S.lgo.put S.notLg p0 _,S.eno.put (S.eno.apart fun cur=>S.alien cur _ (.inl rfl)) p0 _,S.eg,S.ef⟩
theorem SAt.via(S:SAt V0 V p d x log ends k lg en gs ns nd){b:Sl}(hb:b=gs∨∃n∈nd,b=n.sl)(hk:∀c,¬Blk b c->V' c=V c)(L:Lay V0 V' gs ns qAt nd' (gst x'))(hn:∀n∈nd',∃m∈nd,m.sl=n.sl):SAt V0 V' p d x' log ends k lg en gs ns nd':=by
 have own:∃vs,Sx.Own V0 V 3 1 b vs:=by
  rcases hb with rfl|⟨n,hm,rfl⟩
  ·exact⟨_,S.lay.glob⟩
  ·exact⟨_,S.lay.fld n hm⟩
 obtain⟨vs,o⟩:=own
 have np:¬Blk b p:=o.apart fun cur=>S.alien cur _ (.inl rfl)
 refine⟨by rw[hk p np];exact S.at_,L,?_,?_,S.eg,fun n hn' c hc hb'=>?_⟩
 ·exact Own.moveB S.lgo L.sub fun g cur hg hc=>by rw[hk g (S.lgN o (.inl rfl) hg)];exact hc
 ·refine Own.moveB S.eno L.sub fun g cur hg hc=>?_
  rw[hk g]
  ·exact hc
  ·rcases hb with rfl|⟨n,hm,rfl⟩
   ·exact S.eg g hg
   ·exact S.ef n hm g hg
 ·obtain⟨m,hm,e⟩:=hn n hn'
  exact S.ef m hm c hc (e ▸ hb')
theorem SA.sub(S:SA V0 V p d x log ends k lg en):V0.sub V:=by obtain⟨-,gs,ns,nd,S⟩:=S;exact S.lay.sub
theorem SA.lgRows(S:SA V0 V p d x log ends k lg en):qAd V lg 7 (log.map qEf):=by obtain⟨-,gs,ns,nd,S⟩:=S;exact S.lgo.rows qCM (by decide)
theorem SA.enRows(S:SA V0 V p d x log ends k lg en):qAd V en 1 (ends.map qEc):=by obtain⟨-,gs,ns,nd,S⟩:=S;exact S.eno.rows qCo (by decide)
theorem c40(S:SA V0 V p d x log ends k lg en){n i:Nat}{v:Int}(h:InP x n i):Tri Tryz.prog 40 #[pv p,.int .i64 n,.int .i64 i,.int .i64 v] V fun e V'=>e=.returned (.tuple #[])/\SA V0 V' p d (qJi x n i v) log ends k lg en:=by
 obtain⟨p0,gs,ns,nd,S⟩:=S
 refine x40 ?_
 unfold w40
 rcases h with⟨rfl,h⟩|⟨m,t,f,rfl,h1,h2⟩
 ·have hg:gs.n=x.1.length:=(S.lay.glob.rows (row:=qAo) (fun _=>rfl) (by decide)).n_eq
  refine⟨fun _=>⟨nn,nn,pnn,gs,S.read (j:=8) (n:=1) (by decide),?_,by omega,by omega,?_⟩,fun h=>absurd rfl h⟩
  ·have R:=S.lay.glob.rows (row:=qAo) (fun _=>rfl) (by decide)
   exact(R.get (i:=i) (by omega)).choose_spec.2.2.2.2.1
  ·refine Lay.setG S.lay (i:=i) h fun V' L hk=>⟨rfl,p0,gs,ns,nd,S.via (x':=qJi x 0 i v) (.inl rfl) hk L fun n hn=>⟨n,hn,rfl⟩⟩
 ·obtain⟨sl,hsl⟩:=S.lay.at_ (i:=m) (x:=(t,f)) h1
  have R:=S.lay.nodes.rows (row:=Nd.row) (fun _=>rfl) (by decide)
  have hml:=(List.getElem?_eq_some_iff.1 hsl).1
  have hRn:=R.n_eq
  have hcap:=R.cap
  have hfit:=R.fit
  obtain⟨y,-,hy,-,-,hp,hz,hrow⟩:=R.get (i:=m) (by omega)
  rw[hsl]at hy;cases hy
  have Rf:=(S.lay.fld _ (List.mem_of_getElem? hsl)).rows (row:=qAo) (fun _=>rfl) (by decide)
  have hfn:=Rf.n_eq
  have hfn:sl.n=f.length:=hfn
  obtain⟨z,-,-,-,-,hp2,-,-⟩:=Rf.get (i:=i) (by simp_all)
  have e1:(((m+1:Nat):Int)-1)=(m:Int):=by omega
  refine⟨fun h=>absurd h (by omega),fun _=>⟨nn,nn,pnn,ns,S.read (j:=9) (n:=1) (by decide),⟨by omega,by omega⟩,?_⟩⟩
  rw[e1]
  refine⟨hp,by omega,by omega,qAe hp,t,sl,hrow,hp2,by omega,by omega,?_⟩
  refine Lay.setF S.lay (k:=m) (i:=i) hsl h2 fun V' L hk=>⟨rfl,p0,gs,ns,nd.set m ⟨t,sl,f.set i v⟩,S.via (x':=qJi x (m+1) i v) (.inr ⟨_,List.mem_of_getElem? hsl,rfl⟩) hk ?_ fun n hn=>?_⟩
  ·rw[set_n h1];exact L
  ·rcases List.mem_or_eq_of_mem_set hn with h|rfl
   ·grind
   ·exact⟨_,List.mem_of_getElem? hsl,rfl⟩
end
section
variable{V0 V V':Mem}{p:Nat}{d:Ds}{x x':Gm}{log:List En}{ends logs:List Nat}{mems:List Gm}{Ok:Gm->Prop}{k:Nat}{lg en gs ns:Sl}{nd nd':List Nd}
def qJn(lg:Sl)(a b:Nat):Sl:=⟨if lg.c=a then lg.p else qAa lg.p (a*7),b-a,lg.c-a⟩
theorem part_sl(lg:Sl)(a b:Nat):(.slice (if ((lg.c:Int)=(a:Int)) then lg.p else qAa lg.p ((a:Int).toNat*7)) ((b:Int)-(a:Int)).toNat ((lg.c:Int)-(a:Int)).toNat:Value)=(qJn lg a b).v:=by
 unfold qJn
 rw[Int.toNat_natCast,show ((b:Int)-(a:Int)).toNat=b-a by omega,show ((lg.c:Int)-(a:Int)).toNat=lg.c-a by omega]
 by_cases h:lg.c=a
 ·rw[if_pos (by omega)];show _=Value.slice (if lg.c=a then lg.p else qAa lg.p (a*7)) _ _;rw[if_pos h]
 ·rw[if_neg (by omega)];show _=Value.slice (if lg.c=a then lg.p else qAa lg.p (a*7)) _ _;rw[if_neg h]
theorem en_at(S:SA V0 V p d x log ends k lg en){i:Nat}(hi:i<ends.length):¬en.p=none/\(0:Int)<=(i:Int)/\(i:Int)<(en.n:Int)/\V.rowp en.p ((i:Int).toNat*1) 1=some [.int .i64 ((qAT ends (i+1):Nat):Int)]:=by
 have R:=S.enRows
 have hn:=R.n_eq
 obtain⟨y,-,hy,-,-,hp,hz,hrow⟩:=R.get (i:=i) (by omega)
 refine⟨hp,hz,by omega,?_⟩
 rw[Int.toNat_natCast,hrow]
 show some [Value.int .i64 (y:Int)]=some [.int .i64 ((ends.getD i 0:Nat):Int)]
 simp_all
theorem c39(S:SA V0 V p d x log ends k lg en)(H:qGp Ok mems logs k log ends){i:Nat}(hi:i<logs.length):PP 39 [pv p,.int .i64 i] V (qJn lg (qAT ends i) (qAT ends (i+1))).v:=by
 refine x39 ?_
 unfold w39
 have he:=H.elen
 have hlg:=S.lgRows
 have hb:=H.bound (i:=i+1) hi
 have hm:=H.mono (i:=i) (j:=i+1) (by omega) hi
 have hln:=hlg.n_eq
 have hlc:=hlg.cap
 obtain⟨a1,a2,a3,a4⟩:=en_at S (i:=i) (by omega)
 obtain⟨-,gs,ns,nd,St⟩:=id S
 refine⟨fun h=>?_,fun h=>?_⟩
 ·obtain⟨j,rfl⟩:∃j,i=j+1:=⟨i-1,by omega⟩
  obtain⟨b1,b2,b3,b4⟩:=en_at S (i:=j) (by omega)
  have e1:(((j+1:Nat):Int)-1)=(j:Int):=by omega
  refine⟨nn,nn,en,St.read (j:=11) (n:=1) (by decide),⟨by omega,?_⟩,?_⟩
  ·have:=S.enRows.fit;have:=S.enRows.cap;omega
  rw[e1]
  refine⟨b1,b2,b3,_,b4,nn,nn,lg,St.read (j:=10) (n:=1) (by decide),nn,nn,en,St.read (j:=11) (n:=1) (by decide),a1,a2,a3,_,a4,⟨by omega,by omega,by omega⟩,?_⟩
  exact⟨congrArg _ (part_sl lg _ _),rfl⟩
 ·obtain rfl:i=0:=by omega
  refine⟨nn,nn,lg,St.read (j:=10) (n:=1) (by decide),nn,nn,en,St.read (j:=11) (n:=1) (by decide),a1,a2,a3,_,a4,⟨by omega,by omega,by omega⟩,?_⟩
  exact⟨congrArg _ (part_sl lg 0 _),rfl⟩
theorem part_rows(S:SA V0 V p d x log ends k lg en)(H:qGp Ok mems logs k log ends){i:Nat}(hi:i<logs.length):qAd V (qJn lg (qAT ends i) (qAT ends (i+1))) 7 ((qJZ log ends i).map qEf) :=
 rows_cut S.lgRows (H.mono (i:=i) (j:=i+1) (by omega) hi) (H.bound (i:=i+1) hi)
theorem SA.mark(S:SA V0 V p d x log ends k lg en){k':Int}{q:Mem->Prop}(hq:∀V',SA V0 V' p d x log ends k' lg en->q V'):StT (qAa (sa p) 12) 0 [.int .i64 k'] V q:=by
 obtain⟨p0,gs,ns,nd,S⟩:=S
 exact StT.at2 (off:=12) S.at_ (by simp[qGQ]) (hq _ ⟨p0,gs,ns,nd,S.put p0 rfl⟩)
theorem ptr_zero{V0 V:Mem}{e sz:Nat}{s:Sl}{vs:List Value}(o:Sx.Own V0 V e sz s vs)(h:s.c≠0):qAa s.p 0=s.p:=by
 rcases o.cases0 with⟨-,h2,-⟩|⟨-,g,cur,h1,-⟩
 ·omega
 ·rw[h1];rfl
theorem SA.cut(S:SA V0 V p d x log ends k lg en){n:Nat}(hn:n<=x.2.length):∃c:Sl,V.rowp (sa p) 9 1=some [c.v]/\n<=c.c/\∀{q:Mem->Prop},(∀V',SA V0 V' p d (x.1,x.2.take n) log ends k lg en->q V')->StT (qAa (sa p) 9) 0 [.slice (if (c.c:Int)=(0:Int) then c.p else qAa c.p ((0:Int).toNat*2)) ((n:Int)-0).toNat ((c.c:Int)-0).toNat] V q:=by
 obtain⟨p0,gs,ns,nd,S⟩:=S
 have R:=S.lay.nodes.rows (row:=Nd.row) (fun _=>rfl) (by decide)
 have hnl:=S.lay.len
 have hnl:nd.length=x.2.length:=hnl
 have hRn:=R.n_eq
 have hRc:=R.cap
 refine⟨ns,S.read (j:=9) (n:=1) (by decide),by omega,fun {q} hq=>?_⟩
 have e:(.slice (if (ns.c:Int)=(0:Int) then ns.p else qAa ns.p ((0:Int).toNat*2)) ((n:Int)-0).toNat ((ns.c:Int)-0).toNat:Value)=(⟨ns.p,n,ns.c⟩:Sl).v:=by
  rw[show ((n:Int)-0).toNat=n by omega,show ((ns.c:Int)-0).toNat=ns.c by omega]
  by_cases h:ns.c=0
  ·rw[if_pos (by omega)];rfl
  ·rw[if_neg (by omega)]
   show Value.slice (qAa ns.p 0) _ _=_
   rw[ptr_zero S.lay.nodes h];rfl
 rw[e]
 refine StT.at2 (off:=9) S.at_ (by simp[qGQ]) (hq _ ⟨p0,gs,⟨ns.p,n,ns.c⟩,nd.take n,?_⟩)
 have L:Lay V0 V gs ⟨ns.p,n,ns.c⟩ qAt (nd.take n) (gst (x.1,x.2.take n)):=⟨S.lay.glob,own_cut (row:=Nd.row) (fun _=>rfl) S.lay.nodes (by omega) (by decide),S.lay.log,fun m hm=>S.lay.fld m (List.mem_of_mem_take hm),by
  rw[List.map_take,S.lay.eq];rfl,fun m hm=>S.lay.gf m (List.mem_of_mem_take hm),fun i j a b c ha hb=>by
   rw[List.getElem?_take]at ha hb
   split at ha
   ·split at hb
    ·exact S.lay.ff i j a b c ha hb
    ·cases hb
   ·cases ha⟩
 have S':SAt V0 (V.set p (.cells (qGQ d gs ⟨ns.p,n,ns.c⟩ lg en k).toArray 88 (0,0))) p d (x.1,x.2.take n) log ends k lg en gs ⟨ns.p,n,ns.c⟩ (nd.take n) :=
  ⟨Mem.set_same _ _ _,L.put S.alien p0 _,S.lgo.put S.notLg p0 _,S.eno.put (S.eno.apart fun cur=>S.alien cur _ (.inl rfl)) p0 _,S.eg,fun m hm=>S.ef m (List.mem_of_mem_take hm)⟩
 exact S'
end
section
variable{V0 V V':Mem}{p:Nat}{d:Ds}{x x':Gm}{log:List En}{ends logs:List Nat}{mems:List Gm}{Ok:Gm->Prop}{k:Nat}{lg en gs ns:Sl}{nd nd':List Nd}
theorem SA.markAt(S:SA V0 V p d x log ends k lg en):V.rowp (sa p) 12 1=some [.int .i64 k]:=by
 obtain⟨-,gs,ns,nd,S⟩:=S;exact S.read (j:=12) (n:=1) (by decide)
theorem SA.enAt(S:SA V0 V p d x log ends k lg en):V.rowp (sa p) 11 1=some [en.v]:=by
 obtain⟨-,gs,ns,nd,S⟩:=S;exact S.read (j:=11) (n:=1) (by decide)
theorem c18(S:SA V0 V p d x log ends k lg en):PP 18 [pv p] V (.int .i64 k):=by
 refine x18 ?_
 unfold w18
 exact⟨fun h=>absurd h nn,fun _=>⟨nn,nn,_,S.markAt,rfl,rfl⟩⟩
theorem c19(S:SA V0 V p d x log ends k lg en):PP 19 [pv p] V (.int .i64 ends.length):=by
 refine x19 ?_
 unfold w19
 have hn:=S.enRows.n_eq
 exact⟨fun h=>absurd h nn,fun _=>⟨nn,nn,_,S.enAt,by rw[hn],rfl⟩⟩
theorem c20(S:SA V0 V p d x log ends k lg en)(hk:k<=ends.length):PP 20 [pv p] V (.int .i64 (qAT ends k)):=by
 refine x20 ?_
 unfold w20
 refine⟨fun h=>absurd h nn,fun _=>⟨nn,nn,_,S.markAt,fun h=>?_,fun h=>?_⟩⟩
 ·obtain rfl:k=0:=by omega
  exact⟨rfl,rfl⟩
 ·obtain⟨j,rfl⟩:∃j,k=j+1:=⟨k-1,by omega⟩
  have e1:(((j+1:Nat):Int)-1)=(j:Int):=by omega
  obtain⟨a1,a2,a3,a4⟩:=en_at S (i:=j) (by omega)
  have:=S.enRows.fit;have:=S.enRows.cap
  refine⟨nn,nn,en,S.enAt,nn,nn,_,S.markAt,⟨by omega,by omega⟩,?_⟩
  rw[e1]
  exact⟨a1,a2,a3,_,a4,rfl,rfl⟩
theorem c13(S:SA V0 V p d x log ends k lg en)(H:qGp Ok mems logs k log ends)(hx:mems[k]?=some x){j:Int}:Tri Tryz.prog 13 #[pv p,.int .i64 j] V fun e V' =>
  (¬(0<=j/\j<=(k:Int))/\e=.returned (.int .i64 2)/\V'=V)∨(∃n:Nat,j=n/\n<=k/\e=.returned (.int .i64 0)/\∃x',mems[n]?=some x'/\SA V0 V' p d x' log ends n lg en):=by
 refine x13 ?_
 unfold w13
 refine⟨fun h=>absurd h nn,fun _=>⟨fun h=>.inl ⟨fun hj=>by omega,rfl,rfl⟩,fun h=>⟨nn,nn,_,S.markAt,fun h2=>.inl ⟨fun hj=>by omega,rfl,rfl⟩,fun h2=>?_⟩⟩⟩
 have h:¬j<0:=h
 have h2:¬(k:Int)<j:=h2
 obtain⟨n,rfl⟩:∃n:Nat,j=n:=⟨j.toNat,by omega⟩
 have hnk:n<=k:=by omega
 have hkl:=H.le
 have hel:=H.elen
 have hf1:=S.enRows.n_eq
 have hf2:=S.enRows.cap
 have hf3:=S.enRows.fit
 refine⟨fun m xs V1=>xs=[]/\∃t x',m=t-n/\n<=t/\t<=k/\mems[t]?=some x'/\SA V0 V1 p d x' log ends t lg en,k-n,⟨rfl,k,x,rfl,hnk,Nat.le_refl _,hx,S⟩,?_⟩
 rintro m V1 ⟨-,t,x',rfl,ht1,ht2,hxt,S1⟩ J hJ
 refine⟨nn,nn,_,S1.markAt,fun hlt=>?_,fun hge=>?_⟩
 ·have hlt:(n:Int)<(t:Int):=hlt
  obtain⟨t',rfl⟩:∃t',t=t'+1:=⟨t-1,by omega⟩
  have e1:(((t'+1:Nat):Int)-1)=(t':Int):=by omega
  refine⟨nn,nn,_,S1.markAt,⟨by omega,by omega⟩,nn,nn,?_⟩
  rw[e1]
  refine S1.mark (k':=(t':Int)) fun V2 S2=>⟨nn,nn,_,S2.markAt,?_⟩
  have H':=H.move (j:=t') (by omega)
  have hi:t'<logs.length:=by omega
  refine(c39 S2 H' hi).call ⟨_,rfl,?_⟩
  obtain⟨b,hb,-⟩:=H.get (i:=t') (by omega)
  have hw:=(H.way t' b x' hb hxt).2
  obtain⟨l,hl⟩:∃l,l=qJZ log ends t':=⟨_,rfl⟩
  obtain⟨ps,hps⟩:∃ps,ps=qJn lg (qAT ends t') (qAT ends (t'+1)):=⟨_,rfl⟩
  rw[<- hl]at hw
  rw[<- hps]
  have rows:∀{U:Mem} {u:Gm},SA V0 U p d u log ends t' lg en->qAd U ps 7 (l.map qEf):=fun S=>by grind [part_rows,S]
  have hpn:=(rows S2).n_eq
  have hpc:=(rows S2).cap
  have hpf:=(rows S2).fit
  refine⟨⟨by omega,by omega⟩,fun m xs V4=>∃(q:Nat) (u:Gm),xs=[.int .i64 ((q:Int)-1)]/\m=q/\q<=l.length/\Chn qIM undoK u (l.take q).reverse b/\SA V0 V4 p d u log ends t' lg en,l.length,⟨l.length,x',by rw[hpn],rfl,Nat.le_refl _,by simp_all,S2⟩,?_⟩
  rintro m V4 v ⟨q,u,hv,rfl,hq,hc,S4⟩ J1 hJ1
  simp only[List.cons.injEq,Value.int.injEq,true_and,and_true]at hv
  subst hv
  refine⟨fun h0=>?_,fun h0=>?_⟩
  ·have h0:(0:Int)<=(m:Int)-1:=h0
   obtain⟨q',rfl⟩:∃q',m=q'+1:=⟨m-1,by omega⟩
   have e2:(((q'+1:Nat):Int)-1)=(q':Int):=by omega
   rw[e2]
   obtain⟨e,hem,he,-,hel2,hp,hz,hrow⟩:=(rows S4).get (i:=q') (by omega)
   have ht:(l.take (q'+1)).reverse=e::(l.take q').reverse:=by rw[List.take_add_one,he,List.reverse_append];rfl
   rw[ht]at hc
   cases hc with
   | cons ho hc =>
   have hlt2:(q':Int)<(ps.n:Int):=by omega
   have hq':=qAe (n:=q'*7) hp
   have next:∀{V5:Mem},SA V0 V5 p d (qIM u e) log ends t' lg en->IR ((q':Int)-1)/\J1 [.int .i64 ((q':Int)-1)] V5:=fun {V5} S5=>⟨⟨by omega,by omega⟩,hJ1 q' _ _ (by omega) ⟨q',qIM u e,rfl,rfl,by omega,hc,S5⟩⟩
   refine⟨hp,hz,hlt2,hq',_,_,_,_,_,_,_,hrow,fun ha=>?_,fun ha=>?_⟩
   ·have ha:e.al=true:=ha
    rcases ho with⟨-,n',hn',hle⟩|⟨hno,-⟩
    ·obtain⟨c,c1,c2,c3⟩:=S4.cut hle
     have e3:e.node-1=(n':Int):=by omega
     have e4:qIM u e=(u.1,u.2.take n'):=by grind [qIM]
     rw[e4]at next
     have hcc:c.c<=9223372036854775807:=by
      obtain⟨-,gs,ns,nd,St⟩:=S4
      have:=(St.lay.nodes.rows (row:=Nd.row) (fun _=>rfl) (by decide)).fit
      have e5:=(St.read (j:=9) (n:=1) (by decide)).symm.trans c1
      have e5:ns.v=c.v:=by simpa [qGQ]using e5
      grind [Sl.v]
     refine⟨nn,nn,pnn,c,c1,hp,hz,hlt2,hq',_,_,_,_,_,_,_,hrow,?_⟩
     rw[e3]
     exact⟨⟨by omega,by omega⟩,⟨by omega,by omega,by omega⟩,nn,nn,pnn,c3 fun V5 S5=>next S5⟩
    ·rw[ha]at hno;cases hno
   ·have ha:¬e.al=true:=ha
    rcases ho with⟨hyes,-⟩|⟨-,n',i',hn',hi',hin⟩
    ·simp_all
    ·have e4:qIM u e=qJi u n' i' e.old:=by grind [qIM]
     rw[e4]at next
     have T:=c40 S4 hin (v:=e.old)
     rw[<- hn',<- hi']at T
     refine⟨hp,hz,hlt2,hq',_,_,_,_,_,_,_,hrow,hp,hz,hlt2,hq',_,_,_,_,_,_,_,hrow,hp,hz,hlt2,hq',_,_,_,_,_,_,_,hrow,Tri.mono T ?_⟩
     grind
  ·obtain rfl:m=0:=by omega
   have hub:u=b:=by
    rw[List.take_zero,List.reverse_nil]at hc
    cases hc;rfl
   subst hub
   exact hJ (t'-n) [] V4 (by omega) ⟨rfl,t',u,rfl,by omega,by omega,hb,S4⟩
 grind
end
section
variable{V0 V V':Mem}{p:Nat}{d:Ds}{x x':Gm}{log:List En}{ends logs:List Nat}{mems:List Gm}{Ok:Gm->Prop}{k:Nat}{lg en gs ns:Sl}{nd nd':List Nd}
theorem SAt.node(S:SAt V0 V p d x log ends k lg en gs ns nd)(p0:V0 p=none){n:Nd}{V1:Mem}(hown:Sx.Own V V1 3 1 n.sl (n.f.flatMap qAo)){ty tb:Nat}{y z:Operand}{vals:Operand->Value}(htb:V1 tb=none)(hx:vals y=.slice ns.p ns.n ns.c)(hy:vals z=.slice (sa tb) 1 1)(hfit:x.2.length+1<=2147483648){q:Value->Mem->Prop}
  (hq:∀(s':Sl) V',(∀{q':Mem->Prop},(∀V2,SA V0 V2 p d (x.1,x.2++[(n.ty,n.f)]) log ends k lg en->q' V2)->StT (qAa (sa p) 9) 0 [s'.v] V' q')->q (.slice s'.p s'.n s'.c) V') :
  GenK Tryz.prog (.call { callee:=.builtin .append,args:=#[y,z],argTypes:=#[32,32] }) ty vals (V1.set tb (.cells n.row.toArray 104 (0,0))) q:=by
 have hnl:=S.lay.len
 have hnl:nd.length=x.2.length:=hnl
 refine S.lay.new hown htb hx hy (by omega) fun s' V' L hk=>hq s' V' fun {q'} hq'=>?_
 have s1:=hown.sub
 have np:¬Blk ns p:=S.lay.nodes.apart fun cur=>S.alien cur _ (.inr (.inl rfl))
 have at':V' p=some (.cells (qGQ d gs ns lg en k).toArray 88 (0,0)):=hk _ _ (s1 _ _ S.at_) np
 refine StT.at2 (off:=9) at' (by simp[qGQ]) (hq' _ ⟨p0,gs,s',nd++[n],?_⟩)
 have lg':Sx.Own V0 V' 101 7 lg (log.flatMap qEf):=Own.moveB S.lgo L.sub fun g cur hg hc=>hk _ _ (s1 _ _ hc) (S.lgN S.lay.nodes (.inr (.inl rfl)) hg)
 have en':Sx.Own V0 V' 3 1 en (ends.flatMap qEc):=Own.moveB S.eno L.sub fun g cur hg hc=>hk _ _ (s1 _ _ hc) (S.lay.nodes.apart fun cur' h'=>by
  simp_all)
 have S':SAt V0 V' p d (x.1,x.2++[(n.ty,n.f)]) log ends k lg en gs s' (nd++[n])->SAt V0 (V'.set p (.cells (qGQ d gs s' lg en k).toArray 88 (0,0))) p d (x.1,x.2++[(n.ty,n.f)]) log ends k lg en gs s' (nd++[n]):=fun S=>S.put p0 rfl
 have al:qJa V' p:=qBU at' qFo.1
 refine⟨by erw [Mem.set_same];rfl,L.put al p0 _,lg'.put (lg'.apart fun cur hc=>?_) p0 _,en'.put (en'.apart fun cur=>al cur _ (.inl rfl)) p0 _,S.eg,fun m hm c hc hb=>?_⟩
 ·simp_all
 ·rcases List.mem_append.1 hm with hm|hm
  ·exact S.ef m hm c hc hb
  ·rw[List.mem_singleton.1 hm]at hb
   have h0:=Own.none0 hown hb
   obtain⟨cur,h1⟩:=Own.some S.eno hc
   simp_all
theorem c15(S:SA V0 V p d x log ends k lg en)(H:qGp Ok mems logs k log ends)(hx:mems[k]?=some x):Tri Tryz.prog 15 #[pv p] V fun e V' =>
  (k=logs.length/\e=.returned (.tuple #[.int .i64 0,.int .i64 12])/\V'=V)∨(k<logs.length/\e=.returned (.tuple #[.int .i64 ((k+1:Nat):Int),.int .i64 0])/\∃x',mems[k+1]?=some x'/\SA V0 V' p d x' log ends ((k+1:Nat):Int) lg en):=by
 refine x15 ?_
 unfold w15
 have hkl:=H.le
 have hel:=H.elen
 have hf1:=S.enRows.n_eq
 have hf2:=S.enRows.cap
 have hf3:=S.enRows.fit
 refine⟨fun h=>absurd h nn,fun _=>⟨nn,nn,_,S.markAt,nn,nn,_,S.enAt,fun h=>.inl ⟨by omega,rfl,rfl⟩,fun h=>⟨nn,nn,_,S.markAt,?_⟩⟩⟩
 have h:¬(k:Int)=(en.n:Int):=h
 have hi:k<logs.length:=by omega
 refine(c39 S H hi).call ⟨_,rfl,?_⟩
 obtain⟨a,ha,-⟩:=H.get (i:=k+1) hi
 have hw:=(H.way k x a hx ha).1
 obtain⟨l,hl⟩:∃l,l=qJZ log ends k:=⟨_,rfl⟩
 obtain⟨ps,hps⟩:∃ps,ps=qJn lg (qAT ends k) (qAT ends (k+1)):=⟨_,rfl⟩
 rw[<- hl]at hw
 rw[<- hps]
 have rows:∀{U:Mem} {u:Gm},SA V0 U p d u log ends k lg en->qAd U ps 7 (l.map qEf):=fun S=>by grind [part_rows,S]
 have hpn:=(rows S).n_eq
 refine qGC l.length (fun i V1=>∃u,Chn qHo redoK u (l.drop i) a/\SA V0 V1 p d u log ends k lg en) ⟨x,hw,S⟩ ?_
 rintro i V2 J hil ⟨u,hc,S2⟩ hJ
 refine⟨fun hlt=>?_,fun hge=>?_⟩
 ·obtain⟨e,hem,he,hdr,hel2,hp,hz,hrow⟩:=(rows S2).get hlt
  rw[hdr]at hc
  cases hc with
  | cons ho hc =>
  have next:∀{V5:Mem},SA V0 V5 p d (qHo u e) log ends k lg en->IR ((i:Int)+1)/\J [.int .i64 ((i:Int)+1)] V5:=fun {V5} S5=>⟨(rows S2).succ hlt,hJ hel2 _ ⟨qHo u e,hc,S5⟩⟩
  refine⟨hp,hz,hlt,_,_,_,_,_,_,_,hrow,fun hal=>?_,fun hal=>?_⟩
  ·have hal:e.al=true:=hal
   rcases ho with⟨-,⟨n,hn,hn12⟩,hu⟩|⟨hno,-⟩
   ·have e4:qHo u e=(u.1,u.2++[(e.typ,List.replicate n 0)]):=by grind [qHo]
    rw[e4]at next
    obtain⟨p0,gs,ns,nd,St⟩:=S2
    rw[hn]
    refine⟨nn,nn,pnn,ns,St.read (j:=9) (n:=1) (by decide),mk31 (n:=n) rfl rfl (by omega) fun g hg=>⟨⟨some ⟨g,0,none⟩,n,n⟩,rfl,?_⟩⟩
    have hown:=qHz hg (n:=n) (by omega)
    have s1:=hown.sub
    refine⟨qAD (s1 _ _ St.at_) 9 0 1 (by simp[qGQ]),pnn,nn,nn,qAD (s1 _ _ St.at_) 9 0 1 (by simp[qGQ]),pnn,nn,nn,fun tb htb=>?_⟩
    refine St.node p0 (n:=⟨e.typ,⟨some ⟨g,0,none⟩,n,n⟩,List.replicate n 0⟩) hown htb rfl rfl (by omega) fun s' V' hst=>⟨s',rfl,nn,nn,pnn,hst fun V6 S6=>next S6⟩
   ·rw[hal]at hno;cases hno
  ·have hal:¬e.al=true:=hal
   rcases ho with⟨hyes,-⟩|⟨-,n',i',hn',hi',hin⟩
   ·simp_all
   ·have e4:qHo u e=qJi u n' i' e.new:=by grind [qHo]
    rw[e4]at next
    have T:=c40 S2 hin (v:=e.new)
    rw[<- hn',<- hi']at T
    refine Tri.mono T ?_
    grind
 ·have hd:=((rows S2).done hge).2
  rw[List.drop_of_length_le hd]at hc
  have hub:u=a:=by cases hc;rfl
  subst hub
  refine⟨nn,nn,_,S2.markAt,⟨by omega,by omega⟩,nn,nn,S2.mark (k':=(k:Int)+1) fun V3 S3=>⟨nn,nn,(k:Int)+1,?_,?_⟩⟩
  ·obtain⟨-,gs,ns,nd,St⟩:=S3
   exact St.read (j:=12) (n:=1) (by decide)
  simp_all
theorem SAt.mm(S:SAt V0 V p d x log ends k lg en gs ns nd){d0:Ds}(hd:Ds.Ok V0 d0)(G:OkG d0 x):Mm.Ok V ⟨gs,x.1,ns,nd⟩/\(⟨gs,x.1,ns,nd⟩:Mm).plain=x:=qFT hd S.lay G
theorem c21(S:SA V0 V p d x log ends k lg en){d0:Ds}(hd:Ds.Ok V0 d0)(G:OkG d0 x):Tri Tryz.prog 21 #[pv p] V fun e V'=>V.sub V'/\∃m:Mm,e=.returned m.v/\Mm.Ok V' m/\m.plain=x:=by
 refine x21 ?_
 unfold w21
 obtain⟨-,gs,ns,nd,St⟩:=S
 obtain⟨hm,hpl⟩:=St.mm hd G
 have G':qAs d0 ⟨gs,x.1,ns,nd⟩:=G.to hpl
 obtain⟨l1,l2,l3⟩:=qGa G'
 refine⟨fun h=>absurd h nn,fun _=>⟨nn,nn,gs,ns,St.read (j:=8) (n:=2) (by decide),Tri.mono (c32 hm l1 l2 l3) ?_⟩⟩
 rintro _ V1 ⟨gs',ns',nd',rfl,L⟩
 obtain⟨h1,h2⟩:=ok_copy hm L
 exact⟨gs',ns',rfl,L.sub,⟨gs',x.1,ns',nd'⟩,rfl,h1,h2.trans hpl⟩
end
section
variable{V0 V V':Mem}{p:Nat}{d:Ds}{x x':Gm}{log:List En}{ends logs:List Nat}{mems:List Gm}{Ok:Gm->Prop}{k:Int}{lg en gs ns:Sl}{nd nd':List Nd}{m:Mm}
theorem c63(hm:Mm.Ok V m)(hp:m.plain=x){n i:Nat}(h:x.2.length<n∨InP x n i):PP 63 [m.v,.int .i64 n,.int .i64 i] V (.int .i64 (qHp x n i)):=by
 subst hp
 refine x63 ?_
 unfold w63
 have hgn:=hm.globals.n_eq
 have hnn:=hm.nodes.n_eq
 have hnc:=hm.nodes.cap
 have hnf:=hm.nodes.fit
 have hl:m.plain.2.length=m.nodes.length:=by simp[Mm.plain]
 have hg:m.plain.1=m.globals:=rfl
 refine⟨fun h0=>?_,fun h0=>⟨fun h1=>?_,fun h1=>?_⟩⟩
 ·obtain rfl:n=0:=by omega
  rcases h with h|⟨-,h⟩|⟨_,_,_,h,_⟩
  ·omega
  ·rw[hg]at h
   obtain⟨y,-,hy,-,-,hp,hz,hrow⟩:=hm.globals.get (i:=i) (by omega)
   refine⟨hp,hz,by omega,y,hrow,?_,rfl⟩
   rw[loc_g,hg,List.getD_eq_getElem?_getD,hy];rfl
  ·omega
 ·have h1:(m.ns.n:Int)<(n:Int):=h1
  obtain⟨q,rfl⟩:∃q,n=q+1:=⟨n-1,by omega⟩
  refine⟨?_,rfl⟩
  grind [qHp]
 ·have h1:¬(m.ns.n:Int)<(n:Int):=h1
  have h0:¬(n:Int)=0:=h0
  obtain⟨q,rfl⟩:∃q,n=q+1:=⟨n-1,by omega⟩
  have e1:(((q+1:Nat):Int)-1)=(q:Int):=by omega
  rcases h with h|⟨h,-⟩|⟨q',t,f,h,h2,h3⟩
  ·omega
  ·omega
  ·obtain rfl:q'=q:=by omega
   obtain⟨y,hym,hy,-,-,hp,hz,hrow⟩:=hm.nodes.get (i:=q') (by omega)
   have h2':m.plain.2[q']?=some (y.ty,y.f):=by
    show (m.nodes.map fun n=>(n.ty,n.f))[q']?=_
    simp_all
   rw[h2']at h2;cases h2
   have hr:=(hm.nodesOk y hym).rows
   have hrn:=hr.n_eq
   obtain⟨z,-,hzz,-,-,hp2,hz2,hrow2⟩:=hr.get (i:=i) (by omega)
   refine⟨⟨by omega,by omega⟩,?_⟩
   rw[e1]
   refine⟨hp,hz,by omega,qAe hp,_,_,hrow,hp2,hz2,by omega,z,hrow2,?_,rfl⟩
   rw[loc_at h2',List.getD_eq_getElem?_getD,hzz];rfl
theorem SAt.grow(S:SAt V0 V p d x log ends k lg en gs ns nd)(hs:V.sub V'):SAt V0 V' p d x log ends k lg en gs ns nd:=⟨hs _ _ S.at_,S.lay.grow hs,own_grow S.lgo hs,own_grow S.eno hs,S.eg,S.ef⟩
theorem cut_sl{e sz:Nat}{s:Sl}{vs:List Value}(o:Sx.Own V0 V e sz s vs)(n:Nat):(.slice (if (s.c:Int)=(0:Int) then s.p else qAa s.p ((0:Int).toNat*sz)) ((n:Int)-0).toNat ((s.c:Int)-0).toNat:Value)=(⟨s.p,n,s.c⟩:Sl).v:=by
 rw[show ((n:Int)-0).toNat=n by omega,show ((s.c:Int)-0).toNat=s.c by omega,show (0:Int).toNat*sz=0 by simp]
 by_cases h:s.c=0
 ·rw[if_pos (by omega)];rfl
 ·rw[if_neg (by omega),ptr_zero o h];rfl
theorem SAt.cutEn(S:SAt V0 V p d x log ends k lg en gs ns nd)(p0:V0 p=none){n:Nat}(hn:n<=ends.length){q:Mem->Prop}(hq:∀V',SAt V0 V' p d x log (ends.take n) k lg ⟨en.p,n,en.c⟩ gs ns nd->(∀c,c≠p->V' c=V c)->q V') :
  n<=en.c/\StT (qAa (sa p) 11) 0 [.slice (if (en.c:Int)=(0:Int) then en.p else qAa en.p ((0:Int).toNat*1)) ((n:Int)-0).toNat ((en.c:Int)-0).toNat] V q:=by
 have R:=S.eno.rows qCo (by decide)
 have:=R.n_eq
 have:=R.cap
 refine⟨by omega,?_⟩
 rw[cut_sl S.eno]
 refine StT.at2 (off:=11) S.at_ (by simp[qGQ]) (hq _ ?_ fun c hc=>Mem.set_ne hc)
 have nb:¬Blk en p:=S.eno.apart fun cur=>S.alien cur _ (.inl rfl)
 exact⟨Mem.set_same _ _ _,S.lay.put S.alien p0 _,S.lgo.put S.notLg p0 _,(own_cut qCo S.eno hn (by decide)).put nb p0 _,S.eg,S.ef⟩
theorem SAt.cutLg(S:SAt V0 V p d x log ends k lg en gs ns nd)(p0:V0 p=none){n:Nat}(hn:n<=log.length){q:Mem->Prop}(hq:∀V',SAt V0 V' p d x (log.take n) ends k ⟨lg.p,n,lg.c⟩ en gs ns nd->(∀c,c≠p->V' c=V c)->q V') :
  n<=lg.c/\StT (qAa (sa p) 10) 0 [.slice (if (lg.c:Int)=(0:Int) then lg.p else qAa lg.p ((0:Int).toNat*7)) ((n:Int)-0).toNat ((lg.c:Int)-0).toNat] V q:=by
 have R:=S.lgo.rows qCM (by decide)
 have:=R.n_eq
 have:=R.cap
 refine⟨by omega,?_⟩
 rw[cut_sl S.lgo]
 refine StT.at2 (off:=10) S.at_ (by simp[qGQ]) (hq _ ?_ fun c hc=>Mem.set_ne hc)
 exact⟨Mem.set_same _ _ _,S.lay.put S.alien p0 _,(own_cut qCM S.lgo hn (by decide)).put S.notLg p0 _,S.eno.put (S.eno.apart fun cur=>S.alien cur _ (.inl rfl)) p0 _,S.eg,S.ef⟩
theorem SAt.addLg(S:SAt V0 V p d x log ends k lg en gs ns nd)(p0:V0 p=none){e:En}{ty tb:Nat}{y z:Operand}{vals:Operand->Value}(htb:V tb=none)(hx:vals y=.slice lg.p lg.n lg.c)(hy:vals z=.slice (sa tb) 1 1)(hfit:log.length+1<=2147483648){q:Value->Mem->Prop}
  (hq:∀(s':Sl) V',(∀{q':Mem->Prop},(∀V2,SAt V0 V2 p d x (log++[e]) ends k s' en gs ns nd->(∀c o,V c=some o->c≠p->¬Blk lg c->V2 c=some o)->q' V2)->StT (qAa (sa p) 10) 0 [s'.v] V' q')->q (.slice s'.p s'.n s'.c) V') :
  GenK Tryz.prog (.call { callee:=.builtin .append,args:=#[y,z],argTypes:=#[86,86] }) ty vals (V.set tb (.cells (qEf e).toArray 101 (0,0))) q:=by
 refine app86 (s:=lg) (u:=⟨some ⟨tb,0,none⟩,1,1⟩) (xs:=log) (ys:=[e]) hx hy (S.lgo.but.new htb _) (qAd.cells (xs:=[e]) (row:=qEf) mss (by simp) (fun _=>rfl) rfl (by simp)) (by simpa using hfit) fun s' V' ho=>hq s' V' fun {q'} hq'=>?_
 have hk:∀c o,V c=some o->¬Blk lg c->V' c=some o:=fun c o hc hb=>ho.sub _ _ (Mem.but_at hc hb)
 have hs:V0.sub V':=S.lgo.sub_but.trans ho.sub
 have at':=hk _ _ S.at_ S.notLg
 have al:qJa V' p:=qBU at' qFo.1
 have L':Lay V0 V' gs ns qAt nd (gst x):=S.lay.move hs fun c o hc h0 hna=>hk c o hc fun hb=>hna (by
  obtain⟨cur,h⟩:=Own.some S.lgo hb
  exact qBU h qFo.2.2)
 have en':Sx.Own V0 V' 3 1 en (ends.flatMap qEc):=Own.moveB S.eno hs fun g cur hg hc=>hk _ _ hc fun hb=>S.lgN S.eno (.inl rfl) hb hg
 have lg':=ho.narrow S.lgo.sub_but
 refine StT.at2 (off:=10) at' (by simp[qGQ]) (hq' _ ⟨by erw [Mem.set_same];rfl,L'.put al p0 _,lg'.put (lg'.apart fun cur hc=>?_) p0 _,en'.put (en'.apart fun cur=>al cur _ (.inl rfl)) p0 _,S.eg,S.ef⟩ fun c o hc hcp hb=>?_)
 ·simp_all
 grind [Mem.set_ne]
theorem SAt.addEn(S:SAt V0 V p d x log ends k lg en gs ns nd)(p0:V0 p=none){e:Nat}{ty tb:Nat}{y z:Operand}{vals:Operand->Value}(htb:V tb=none)(hx:vals y=.slice en.p en.n en.c)(hy:vals z=.slice (sa tb) 1 1)(hfit:ends.length+1<=2147483648){q:Value->Mem->Prop}
  (hq:∀(s':Sl) V',(∀{q':Mem->Prop},(∀V2,SAt V0 V2 p d x log (ends++[e]) k lg s' gs ns nd->(∀c o,V c=some o->c≠p->¬Blk en c->V2 c=some o)->(∀c,Blk s' c->Blk en c∨V c=none)->q' V2)->StT (qAa (sa p) 11) 0 [s'.v] V' q')->q (.slice s'.p s'.n s'.c) V') :
  GenK Tryz.prog (.call { callee:=.builtin .append,args:=#[y,z],argTypes:=#[31,31] }) ty vals (V.set tb (.cells (qEc e).toArray 3 (0,0))) q:=by
 refine appN (s:=en) (u:=⟨some ⟨tb,0,none⟩,1,1⟩) (xs:=ends) (ys:=[e]) hx hy (S.eno.but.new htb _) (qAd.cells (xs:=[e]) (row:=qEc) mss (by simp) (fun _=>rfl) rfl (by simp)) (by simpa using hfit) fun s' V' ho=>hq s' V' fun {q'} hq'=>?_
 have hk:∀c o,V c=some o->¬Blk en c->V' c=some o:=fun c o hc hb=>ho.sub _ _ (Mem.but_at hc hb)
 have hs:V0.sub V':=S.eno.sub_but.trans ho.sub
 have nb:¬Blk en p:=S.eno.apart fun cur=>S.alien cur _ (.inl rfl)
 have at':=hk _ _ S.at_ nb
 have al:qJa V' p:=qBU at' qFo.1
 have hnew:∀c,Blk s' c->Blk en c∨V c=none:=fun c hc=>by
  have h0:=Own.none0 ho hc
  by_cases hb:Blk en c
  ·exact .inl hb
  ·right
   cases hv:V c with
   | none=>rfl
   | some o=>grind [Mem.but_at]
 have glob':Sx.Own V0 V' 3 1 gs (x.1.flatMap qAo):=Own.moveB S.lay.glob hs fun g cur hg hc=>hk _ _ hc fun hb=>S.eg g hb hg
 have node':Sx.Own V0 V' 104 2 ns (nd.flatMap Nd.row):=Own.moveB S.lay.nodes hs fun g cur hg hc=>hk _ _ hc (S.eno.apart fun cur' h'=>by
  simp_all)
 have L':Lay V0 V' gs ns qAt nd (gst x):=⟨glob',node',Own.nil hs _ _,fun n hn=>Own.moveB (S.lay.fld n hn) hs fun g cur hg hc=>hk _ _ hc fun hb=>S.ef n hn g hb hg,S.lay.eq,S.lay.gf,S.lay.ff⟩
 have lg':Sx.Own V0 V' 101 7 lg (log.flatMap qEf):=Own.moveB S.lgo hs fun g cur hg hc=>hk _ _ hc fun hb=>S.lgN S.eno (.inl rfl) hg hb
 have en':=ho.narrow S.eno.sub_but
 have far:∀{s:Sl} {e sz:Nat} {vs:List Value},Sx.Own V0 V e sz s vs->(∀c,Blk en c->¬Blk s c)->∀c,Blk s' c->¬Blk s c:=fun {s e sz vs} o h c hc hs=>by
  grind [Own.some]
 refine StT.at2 (off:=11) at' (by simp[qGQ]) (hq' _ ⟨by erw [Mem.set_same];rfl,L'.put al p0 _,lg'.put (lg'.apart fun cur hc=>?_) p0 _,en'.put (en'.apart fun cur=>al cur _ (.inl rfl)) p0 _,far S.lay.glob S.eg,fun n hn=>far (S.lay.fld n hn) (S.ef n hn)⟩ (fun c o hc hcp hb=>?_) hnew)
 ·simp_all
 grind [Mem.set_ne]
end
section
variable{V0 V V':Mem}{p:Nat}{d d':Ds}{x:Gm}{log:List En}{ends logs:List Nat}{mems:List Gm}{Ok:Gm->Prop}{k F:Nat}{lg en gs ns l:Sl}{nd:List Nd}{nm:ByteArray}{args:List Int}{m m':Mm}{at':Bool}
theorem start_same(G:qAs d m)(G':qAs d' m')(SD:qEF d d')(hp:m'.plain=m.plain){F:Int}:qAE d' m' nm args F=qAE d m nm args F:=by
 unfold qAE qAC
 rw[if_pos G,if_pos G',SD.cll,qGK hp]
def qFN(r:Rx Int):List Value:=qCZ (qKb r) (outV r) r.st.cm (qAB r.st.lg)
def StepP(V0:Mem)(p:Nat)(d d':Ds)(x:Gm)(log:List En)(ends:List Nat)(k F:Nat)(lg en:Sl)(nm:ByteArray)(args:List Int)(atm:Bool):Ending->Mem->Prop:=fun e V' =>
 (qAE d (gmM x) nm args F≠0/\e=.returned (.tuple #[.agg (qCZ 0 0 0 0).toArray,.int .i64 (qAE d (gmM x) nm args F)])/\SA V0 V' p d' x log ends k lg en) ∨
 (qAE d (gmM x) nm args F=0/\∃r:Rx Int,r=qCn d F (qDJ d nm) args (gst x) /\
  ((2000<=k/\e=.returned (.tuple #[.agg (qCZ 0 0 0 0).toArray,.int .i64 4])/\SA V0 V' p d' x log ends k lg en) ∨
  (k<2000/\atm=true/\qKb r≠0/\e=.returned (.tuple #[.agg (qFN r).toArray,.int .i64 0])/\SA V0 V' p d' x log ends k lg en) ∨
  (k<2000/\¬(atm=true/\qKb r≠0)/\e=.returned (.tuple #[.agg (qFN r).toArray,.int .i64 0])/\∃lg' en',SA V0 V' p d' (r.st.g,r.st.ns) (log.take (qAT ends k)++qBP d x (r.st.g,r.st.ns) r.st.lg) (ends.take k++[qAT ends k+(qBP d x (r.st.g,r.st.ns) r.st.lg).length]) ((k+1:Nat):Int) lg' en')))
structure New1 (V0:Mem) (V:Mem) (gs ns ls:Sl) (nd:List Nd) (lt:Sl) (s:St):Prop where
 lay:Lay V0 V gs ns ls nd s
 tr:Sx.Own V0 V 98 3 lt (s.lg.flatMap qFg)
theorem New1.move{lt ls:Sl}{s:St}(h:New1 V0 V gs ns ls nd lt s)(hs:V0.sub V')(hk:∀c o,V c=some o->V0 c=none->¬qJa V c->V' c=some o):New1 V0 V' gs ns ls nd lt s :=
 ⟨h.lay.move hs hk,Own.moveB h.tr hs fun g cur hg hc=>hk _ _ hc (Own.none0 h.tr hg) fun ha=>ha _ _ (.inr (.inr rfl)) hc⟩
theorem ents_succ{b a:Gm}{t:Int×Int×Int}{l:List (Int×Int×Int)}{i:Nat}(h:l[i]?=some t):qBP d b a (l.take (i+1))=qBP d b a (l.take i)++qKB d b a t:=by
 grind [qBP,List.take_add_one]
theorem ents_le{b a:Gm}{l:List (Int×Int×Int)}{i:Nat}:(qBP d b a (l.take i)).length<=i:=by
 induction i with
 | zero=>simp[qBP]
 | succ i ih =>
  cases h:l[i]? with
  | none=>grind [List.take_add_one,Option.toList]
  | some t =>
   rw[ents_succ h,List.length_append]
   grind [qKB]
theorem c35[Tab V0](S:SA V0 V p d' x log ends k lg en)(H:qGp Ok mems logs k log ends)(G:OkG d x)(SD:qEF d d')(hd':Ds.Ok V0 d')(ha:qAd V0 l 1 (args.map qAo))(hF:F<=4000)(hlog:log.length+4000*F+1<=2147483648)(hends:ends.length+1<=2147483648) :
  Tri Tryz.prog 35 #[pv p,.agg #[.string nm,l.v],.int .i64 F,.bool at'] V (StepP V0 p d d' x log ends k F lg en nm args at'):=by
 obtain⟨R,hR⟩:∃R,R=StepP V0 p d d' x log ends k F lg en nm args at':=⟨_,rfl⟩
 rw[<- hR]
 refine x35 (R:=R) ?_
 unfold w35
 obtain⟨p0,gs,ns,nd,Sa⟩:=S
 have s0:=Sa.lay.sub
 have hhe:=H.elen
 have hhl:=H.le
 have hek:k<=ends.length:=by omega
 have hlk:=H.bound hhl
 have hp:(⟨gs,x.1,ns,nd⟩:Mm).plain=x:=by unfold Mm.plain;rw[Sa.lay.eq];rfl
 have G1:qAs d ⟨gs,x.1,ns,nd⟩:=G.to hp
 have G2:qAs d' ⟨gs,x.1,ns,nd⟩:=G1.same SD
 have hm:Mm.Ok V ⟨gs,x.1,ns,nd⟩:=(qFT hd' Sa.lay (OkG.of G2 |> fun h=>(by have:=h;rw[hp]at this;exact this))).1
 have hst:qDM ⟨gs,x.1,ns,nd⟩=gst x:=by
  show (⟨x.1,nd.map fun n=>(n.ty,n.f),0,0,[]⟩:St)=⟨x.1,x.2,0,0,[]⟩
  rw[Sa.lay.eq];rfl
 have hsE:qAE d' ⟨gs,x.1,ns,nd⟩ nm args F=qAE d (gmM x) nm args F:=start_same G G2 SD (hp.trans (qDE x).symm)
 have hpl:∀i,qCn d' F i args (qDM ⟨gs,x.1,ns,nd⟩)=qCn d F i args (gst x):=fun i=>by rw[SD.play,hst]
 haveI:Tab V:=Tab.sub (V:=V0) inferInstance s0
 refine⟨fun h=>absurd h nn,fun _=>⟨nn,nn,_,_,_,_,_,_,_,_,Sa.read (j:=0) (n:=8) (by decide),nn,nn,gs,ns,Sa.read (j:=8) (n:=2) (by decide),Tri.mono (c62 (F:=F) (m:=⟨gs,x.1,ns,nd⟩) (hd'.sub s0) hm (ha.sub s0) hF) ?_⟩⟩
 rintro e V1 (⟨hc,s1,rfl⟩|⟨hc,r,gs1,ns1,ls1,nd1,hr,L,rfl⟩)
 ·refine⟨_,_,_,_,_,_,_,_,rfl,fun h=>absurd h hc,fun _=>?_⟩
  rw[hsE]at hc ⊢
  rw[hR]
  exact .inl ⟨hc,rfl,p0,gs,ns,nd,Sa.grow s1⟩
 have hc':=hc
 rw[hsE]at hc'
 rw[SD.idx,hpl]at hr
 have S1:=Sa.grow L.sub
 have fin:∀{e:Ending} {U:Mem},(2000<=k/\e=.returned (.tuple #[.agg (qCZ 0 0 0 0).toArray,.int .i64 4])/\SA V0 U p d' x log ends k lg en) ∨
  (k<2000/\at'=true/\qKb r≠0/\e=.returned (.tuple #[.agg (qFN r).toArray,.int .i64 0])/\SA V0 U p d' x log ends k lg en) ∨
  (k<2000/\¬(at'=true/\qKb r≠0)/\e=.returned (.tuple #[.agg (qFN r).toArray,.int .i64 0])/\∃lg' en',SA V0 U p d' (r.st.g,r.st.ns) (log.take (qAT ends k)++qBP d x (r.st.g,r.st.ns) r.st.lg) (ends.take k++[qAT ends k+(qBP d x (r.st.g,r.st.ns) r.st.lg).length]) ((k+1:Nat):Int) lg' en')->R e U:=fun {e U} h=>by
  rw[hR];exact .inr ⟨hc',r,hr,h⟩
 refine⟨_,_,_,_,_,_,_,_,rfl,fun _=>⟨nn,nn,_,S1.read (j:=12) (n:=1) (by decide),fun hk=>fin (.inl ⟨by omega,rfl,p0,gs,ns,nd,S1⟩),fun hk=>?_⟩,fun h=>absurd rfl h⟩
 have hk:k<2000:=by omega
 refine(fun(key:¬(at'=true/\qKb r≠0)->_)=>⟨fun h1=>⟨fun h2=>key fun h=>h.2 h2,fun h2=>fin (.inr (.inl ⟨hk,h1,h2,rfl,p0,gs,ns,nd,S1⟩))⟩,fun h1=>key fun h=>h1 h.1⟩) fun hat=>?_
 -- the call, once more
 haveI:Tab V1:=Tab.sub (V:=V) inferInstance L.sub
 have s01:=s0.trans L.sub
 refine⟨nn,nn,_,_,_,_,_,_,_,_,S1.read (j:=0) (n:=8) (by decide),nn,nn,gs,ns,S1.read (j:=8) (n:=2) (by decide),Tri.mono (c29 (F:=F) (m:=⟨gs,x.1,ns,nd⟩) (hd'.sub s01) (hm.sub L.sub) (ha.sub s01) hF) ?_⟩
 rintro e V2 (⟨hc2,-⟩|⟨-,r2,lt,hr2,oT,rfl⟩)
 ·exact absurd hc hc2
 obtain rfl:r2=r:=by rw[hr2,SD.idx,hpl,hr]
 have hcl:qCN d ⟨gs,x.1,ns,nd⟩ nm args=0:=by rw[<- SD.cll];exact(qEG hc).2
 have hdid:=qKE F G1 hcl (r:=r2) (by rw[hst,hr])
 rw[hp]at hdid
 have hok:=hdid.ok
 have hGy:qAs d' r2.st.mm:=qAs.same (m:=r2.st.mm) hok SD
 have Gx:OkG d' x:=by grind [OkG.of]
 have S2:=S1.grow oT.sub
 have N2:New1 V0 V2 gs1 ns1 ls1 nd1 lt r2.st:=⟨(L.narrow s0).grow oT.sub,oT.narrow s01⟩
 have far:∀c,(Blk gs1 c∨∃n∈nd1,Blk n.sl c)->V c=none:=by
  rintro c (h|⟨n,hn,h⟩)
  ·exact Own.none0 L.glob h
  ·exact Own.none0 (L.fld n hn) h
 have enV:∀c,Blk en c->V c≠none:=fun c hc=>by obtain⟨cur,h⟩:=Own.some Sa.eno hc;rw[h];simp
 have capE:k<=en.c:=by
  have R1:=Sa.eno.rows qCo (by decide)
  have:=R1.n_eq;have:=R1.cap;omega
 have capL:qAT ends k<=lg.c:=by
  have R1:=Sa.lgo.rows qCM (by decide)
  have:=R1.n_eq;have:=R1.cap;omega
 refine⟨_,_,rfl,nn,nn,en,S2.read (j:=11) (n:=1) (by decide),nn,nn,_,S2.read (j:=12) (n:=1) (by decide),⟨by omega,by omega,by omega⟩,nn,nn,(SAt.cutEn S2 p0 hek fun V3 S3 k3=>?_).2⟩
 have N3:New1 V0 V3 gs1 ns1 ls1 nd1 lt r2.st:=N2.move S3.lay.sub fun c o hc _ hna=>by rw[k3 c fun e=>hna (by rw[e];exact S2.alien)];exact hc
 have hlt:(ends.take k).length=k:=by simp_all
 have hea:qAT (ends.take k) k=qAT ends k:=by
  cases k with
  | zero=>rfl
  | succ j =>
   show (ends.take (j+1)).getD j 0=ends.getD j 0
   grind
 refine⟨nn,nn,lg,S3.read (j:=10) (n:=1) (by decide),(c20 (k:=k) (ends:=ends.take k) ⟨p0,gs,ns,nd,S3⟩ (by omega)).call ⟨_,rfl,?_⟩⟩
 rw[hea]
 refine⟨qAD S3.at_ 10 0 1 (by simp[qGQ]),nn,nn,⟨by omega,by omega,by omega⟩,nn,nn,(SAt.cutLg S3 p0 hlk fun V5 S5 k5=>?_).2⟩
 have N5:New1 V0 V5 gs1 ns1 ls1 nd1 lt r2.st:=N3.move S5.lay.sub fun c o hc _ hna=>by rw[k5 c fun e=>hna (by rw[e];exact S3.alien)];exact hc
 have hltl:(log.take (qAT ends k)).length=qAT ends k:=by simp_all
 have hln:=hdid.len
 refine qGC r2.st.lg.length (fun i V6=>∃lg6,SAt V0 V6 p d' x (log.take (qAT ends k)++qBP d x (r2.st.g,r2.st.ns) (r2.st.lg.take i)) (ends.take k) k lg6 ⟨en.p,k,en.c⟩ gs ns nd/\New1 V0 V6 gs1 ns1 ls1 nd1 lt r2.st) ⟨⟨lg.p,qAT ends k,lg.c⟩,by
  have e:qBP d x (r2.st.g,r2.st.ns) (r2.st.lg.take 0)=[]:=rfl
  rw[e,List.append_nil];exact S5,N5⟩ ?_
 rintro i V6 J hi ⟨lg6,S6,N6⟩ hJ
 have TR:=N6.tr.rows (row:=qFg) (fun _=>rfl) (by decide)
 have hle:(qBP d x (r2.st.g,r2.st.ns) (r2.st.lg.take i)).length<=i:=ents_le
 have hfit:(log.take (qAT ends k)++qBP d x (r2.st.g,r2.st.ns) (r2.st.lg.take i)).length+1<=2147483648∨i=r2.st.lg.length:=by
  grind
 have moveN:∀{V7:Mem},V0.sub V7->(∀c o,V6 c=some o->c≠p->¬Blk lg6 c->V7 c=some o)->New1 V0 V7 gs1 ns1 ls1 nd1 lt r2.st:=fun hs hk=>N6.move hs fun c o hc _ hna=>hk c o hc (fun e=>hna (by rw[e];exact S6.alien)) fun hb=>hna (by
  obtain⟨cur,h⟩:=Own.some S6.lgo hb
  exact qBU h qFo.2.2)
 refine⟨fun hlt6=>?_,fun hge=>?_⟩
 ·obtain⟨t,htm,ht,-,hil,hp6,hz6,hrow⟩:=TR.get hlt6
  have hes:=ents_succ (d:=d) (b:=x) (a:=(r2.st.g,r2.st.ns)) ht
  have next:∀{V7:Mem} {s':Sl} {ex:List En},qKB d x (r2.st.g,r2.st.ns) t=ex->SAt V0 V7 p d' x (log.take (qAT ends k)++qBP d x (r2.st.g,r2.st.ns) (r2.st.lg.take i)++ex) (ends.take k) k s' ⟨en.p,k,en.c⟩ gs ns nd->New1 V0 V7 gs1 ns1 ls1 nd1 lt r2.st->IR ((i:Int)+1)/\J [.int .i64 ((i:Int)+1)] V7:=fun {V7 s' ex} he S7 N7=>⟨TR.succ hlt6,hJ hil _ ⟨s',by simp_all,N7⟩⟩
  have hf:(log.take (qAT ends k)++qBP d x (r2.st.g,r2.st.ns) (r2.st.lg.take i)).length+1<=2147483648:=by omega
  have rd:∀{U:Mem},V6.sub U->U.rowp (qAa (sa p) 10) 0 1=some [lg6.v]:=fun hs=>qAD (hs _ _ S6.at_) 10 0 1 (by simp[qGQ])
  have hkind:=hdid.tra.at_ t htm
  obtain⟨t1,t2,t3⟩:=t
  simp only at hkind
  refine⟨hp6,hz6,hlt6,t1,t2,t3,hrow,fun h2=>?_,fun h2=>⟨fun h3=>?_,fun h3=>?_⟩⟩
  ·have h2:t1=2:=h2
   rcases hkind with h|⟨-,n,j,rfl,rfl,hin,hor⟩|⟨h,-⟩
   ·omega
   ·obtain⟨hm6,hp6'⟩:=S6.mm hd' Gx
    obtain⟨hmN,hpN⟩:=qFT hd' N6.lay hGy
    refine⟨nn,nn,lg6,S6.read (j:=10) (n:=1) (by decide),nn,nn,gs,ns,S6.read (j:=8) (n:=2) (by decide),(c63 (m:=⟨gs,x.1,ns,nd⟩) hm6 hp6' hor).call ⟨_,rfl,rd (Mem.sub.refl _),nn,nn,(c63 (m:=⟨gs1,r2.st.g,ns1,nd1⟩) hmN hpN (.inr hin)).call ⟨_,rfl,rd (Mem.sub.refl _),nn,nn,rd (Mem.sub.refl _),nn,nn,fun tb htb=>?_⟩⟩⟩
    refine S6.addLg p0 (e:=⟨n,j,qHp x n j,qHp (r2.st.g,r2.st.ns) n j,false,0,0⟩) htb rfl rfl hf fun s' V' hst=>⟨s',rfl,nn,nn,hst fun V7 S7 k7=>next ?_ S7 (moveN S7.lay.sub k7)⟩
    simp_all [qKB,if_pos,Int.toNat_natCast]
   ·omega
  ·have h3:t1=3:=h3
   rcases hkind with h|⟨h,-⟩|⟨-,n,f,rfl,hy⟩
   ·omega
   ·omega
   ·obtain⟨ty0,ty1⟩:=OkG.type (d:=d') (y:=(r2.st.g,r2.st.ns)) hGy hy
    obtain⟨j,rfl⟩:∃j:Nat,t3=j:=⟨t3.toNat,by omega⟩
    have htn:=hd'.types.n_eq
    obtain⟨tt,httm,htt,-,-,hp7,hz7,hrow7⟩:=(hd'.types.sub S6.lay.sub).get (i:=j) (by omega)
    have hfo:qAr d (j:Int)=tt.fields:=by rw[<- SD.fields];exact qBc htt rfl
    have hfn:=(hd'.typesOk tt httm).fields.n_eq
    refine⟨nn,nn,lg6,S6.read (j:=10) (n:=1) (by decide),nn,nn,pnn,d'.ts,S6.read (j:=1) (n:=1) (by decide),hp7,hz7,by omega,qAe hp7,_,_,hrow7,rd (Mem.sub.refl _),nn,nn,fun tb htb=>?_⟩
    refine S6.addLg p0 (e:=⟨(n:Int)+1,0,0,0,true,j,tt.fs.n⟩) htb rfl rfl hf fun s' V' hst=>⟨s',rfl,nn,nn,hst fun V7 S7 k7=>next ?_ S7 (moveN S7.lay.sub k7)⟩
    grind [qKB]
  grind [ex,qKB]
 ·have hd:=(TR.done hge).2
  rw[List.take_of_length_le hd]at S6 hle
  have hlgn:=(S6.lgo.rows qCM (by decide)).n_eq
  rw[List.length_append,hltl]at hlgn
  refine⟨nn,nn,⟨en.p,k,en.c⟩,S6.read (j:=11) (n:=1) (by decide),nn,nn,lg6,S6.read (j:=10) (n:=1) (by decide),qAD S6.at_ 11 0 1 (by simp[qGQ]),nn,nn,fun tb htb=>?_⟩
  rw[hlgn]
  refine S6.addEn p0 (e:=qAT ends k+(qBP d x (r2.st.g,r2.st.ns) r2.st.lg).length) htb rfl rfl (by omega) fun s' V' hst=>⟨s',rfl,nn,nn,hst fun V7 S7 k7 h7=>⟨nn,nn,_,S7.read (j:=12) (n:=1) (by decide),⟨by omega,by omega⟩,nn,nn,?_⟩⟩
  refine StT.at2 (off:=12) S7.at_ (by simp[qGQ]) ⟨nn,nn,?_⟩
  have S8:=S7.put p0 (k':=(k:Int)+1) (c:=((qGQ d' gs ns lg6 s' k).toArray.toList.take 12++[Value.int .i64 ((k:Int)+1)]++(qGQ d' gs ns lg6 s' k).toArray.toList.drop (12+[Value.int .i64 ((k:Int)+1)].length)).toArray) rfl
  have np:∀{g:Nat} {cur:Array Value} {e:Nat},V6 g=some (.cells cur e (0,0))->(e=3∨e=104∨e=98)->g≠p:=fun {g cur e} hg he e'=>S6.alien cur e he (by simp_all)
  have L7:Lay V0 V7 gs1 ns1 qAt nd1 (gst (r2.st.g,r2.st.ns)):=⟨Own.moveB N6.lay.glob S7.lay.sub fun g cur hg hc=>k7 g _ hc (np hc (.inl rfl)) fun hb=>enV g hb (far g (.inl hg)),Own.moveB N6.lay.nodes S7.lay.sub fun g cur hg hc=>k7 g _ hc (np hc (.inr (.inl rfl))) (S6.eno.apart fun cur' h'=>by
   simp_all),Own.nil S7.lay.sub _ _,fun n hn=>Own.moveB (N6.lay.fld n hn) S7.lay.sub fun g cur hg hc=>k7 g _ hc (np hc (.inl rfl)) fun hb=>enV g hb (far g (.inr ⟨n,hn,hg⟩)),N6.lay.eq,N6.lay.gf,N6.lay.ff⟩
  have L8:=L7.put S7.alien p0 (.cells ((qGQ d' gs ns lg6 s' k).toArray.toList.take 12++[Value.int .i64 ((k:Int)+1)]++(qGQ d' gs ns lg6 s' k).toArray.toList.drop (12+[Value.int .i64 ((k:Int)+1)].length)).toArray 88 (0,0))
  have away:∀{s:Sl} {vs:List Value},Sx.Own V0 V6 3 1 s vs->(∀c,Blk s c->V c=none)->∀c,Blk s' c->¬Blk s c:=fun {s vs} o h c hc hs=>by
   rcases h7 c hc with h1|h1
   ·exact enV c h1 (h c hs)
   grind [Own.some]
  refine StT.at2 (off:=8) S8.at_ (by simp[qGQ]) (fin (.inr (.inr ⟨hk,hat,rfl,lg6,s',p0,gs1,ns1,nd1,?_⟩)))
  exact⟨by erw [Mem.set_same];rfl,L8.put S8.alien p0 _,S8.lgo.put S8.notLg p0 _,S8.eno.put (S8.eno.apart fun cur=>S8.alien cur _ (.inl rfl)) p0 _,away N6.lay.glob fun c hc=>far c (.inl hc),fun n hn=>away (N6.lay.fld n hn) fun c hc=>far c (.inr ⟨n,hn,hc⟩)⟩
end
section
variable{V V0:Mem}{d:Ds}{m:Mm}{nm:ByteArray}{args:List Int}{l:Sl}
def RunE(V:Mem)(k:Int):Ending->Mem->Prop:=fun e V'=>V.sub V'/\e=.returned (.tuple #[.agg (qCZ 0 0 0 0).toArray,.agg #[qAt.v,qAt.v],.int .i64 k])
theorem startEv[Tab V](hd:Ds.Ok V d)(hm:Mm.Ok V m){F:Int}(hg:qAC d m F≠0):Tri Tryz.prog 48 #[d.v,m.v,.agg #[.string nm,l.v],.int .i64 F] V fun e V'=>V'=V/\e=.returned (.tuple #[.pointer none,.agg (qCZ 0 0 0 0).toArray,.int .i64 (qAC d m F)]):=by
 refine x48 ?_
 unfold w48
 exact(c43 hd hm).call ⟨_,rfl,fun h=>absurd h hg,fun _=>⟨rfl,rfl⟩⟩
theorem runEv[Tab V](hd:Ds.Ok V d)(hm:Mm.Ok V m){F:Int}(hg:qAC d m F≠0):Tri Tryz.prog 62 #[d.v,m.v,.agg #[.string nm,l.v],.int .i64 F] V (RunE V (qAC d m F)):=by
 refine x62 (R:=RunE V (qAC d m F)) ?_
 unfold w62
 refine Tri.mono (startEv hd hm hg) ?_
 rintro _ _ ⟨rfl,rfl⟩
 exact⟨_,_,_,_,_,_,_,rfl,fun h=>absurd h hg,fun _=>⟨Mem.sub.refl _,rfl⟩⟩
def emptyX:List Value:=[Go.Sx.vS (qAl []),qAt.v,qAt.v,qAt.v,qAt.v,qAt.v,qAt.v,qAt.v,qAt.v,qAt.v,.int .i64 0,.int .i64 0,.int .i64 0,.int .i64 0,.int .i64 0,.int .i64 0,.int .i64 0,qAt.v]
theorem startXe(hd:Ds.Ok V d)(hm:Mm.Ok V m){F:Int}(hg:qAC d m F≠0):Tri Tryz.prog 36 #[d.v,m.v,.agg #[.string nm,l.v],.int .i64 F] V fun e V'=>V.sub V'/\∃q,V' q=some (.cells emptyX.toArray 96 (0,0))/\e=.returned (.tuple #[pv q,.int .i64 (qAC d m F)]):=by
 refine x36 ?_
 unfold w36
 exact(c33 hd hm).call ⟨_,rfl,fun h=>absurd h hg,fun _=>⟨fun h=>absurd h hg,fun _ b hb=>⟨Mem.sub_new hb _,b,Mem.set_same _ _ _,rfl⟩⟩⟩
theorem given_fuel{F:Int}(h:qAC d m F=0):0<=F/\F<=1048576:=by
 grind [qAC]
end
section
variable{V0 V V':Mem}{p:Nat}{d d':Ds}{x:Gm}{log:List En}{ends logs:List Nat}{mems:List Gm}{Ok:Gm->Prop}{k F:Nat}{lg en gs ns l:Sl}{nd:List Nd}{nm:ByteArray}{args:List Int}{m m':Mm}{at':Bool}
theorem cll_not1:qCN d m nm args≠1:=by
 grind [qCN]
theorem qJv(G:qAs d m):qAC d m ((0:Nat):Int)=0:=by
 grind [qAC]
def NewP(V:Mem)(d:Ds)(m:Mm):Ending->Mem->Prop:=fun e V' =>
 (¬qAs d m/\V.sub V'/\e=.returned (.tuple #[.pointer none,.int .i64 1])) ∨
 (qAs d m/\∃p d' W,e=.returned (.tuple #[pv p,.int .i64 0])/\V.sub W/\Ds.Ok W d'/\qEF d d'/\SA W V' p d' m.plain [] [] ((0:Nat):Int) qAt qAt)
theorem c8[Tab V](hd:Ds.Ok V d)(hm:Mm.Ok V m):Tri Tryz.prog 8 #[d.v,m.v] V (NewP V d m):=by
 refine x8 (R:=NewP V d m) ?_
 unfold w8
 refine Tri.mono (c29 (F:=0) (nm:=qAl []) (args:=[]) (l:=qAt) hd hm qAd.nil (by decide)) fun e V1 h=>?_
 have key:∃ls:Sl,e=.returned (.tuple #[ls.v,.int .i64 (qAE d m (qAl []) [] ((0:Nat):Int))])/\V.sub V1:=by
  rcases h with⟨hc,hs,rfl⟩|⟨hc,r,ls,-,o,rfl⟩
  ·grind
  ·exact⟨ls,by rw[hc],o.sub⟩
 obtain⟨ls,rfl,s1⟩:=key
 haveI:Tab V1:=Tab.sub (V:=V) inferInstance s1
 refine⟨ls,_,rfl,fun h1=>.inl ⟨fun G=>?_,s1,rfl⟩,fun h1=>?_⟩
 ·have h1:qAE d m (qAl []) [] ((0:Nat):Int)=1:=h1
  unfold qAE at h1
  rw[if_pos (qJv G)]at h1
  exact cll_not1 h1
 ·have h1:¬qAE d m (qAl []) [] ((0:Nat):Int)=1:=h1
  have G:qAs d m:=by
   grind [qAE,qAC]
  refine(c30 (hd.sub s1) (hm.sub s1)).call ⟨_,rfl,fun _=>?_,fun h=>absurd G.mem h⟩
  refine Tri.mono (c31 (hd.sub s1) G.valid) ?_
  rintro _ V3 ⟨d',rfl,s3,hd',SD⟩
  obtain⟨l1,l2,l3⟩:=qGa G
  have s03:=s1.trans s3
  refine⟨d'.name,d'.ts,d'.gs,d'.ps,d'.ms,d'.is,d'.qs,d'.bs,rfl,Tri.mono (c32 (hm.sub s03) l1 l2 l3) ?_⟩
  rintro _ V4 ⟨gs,ns,nd,rfl,L⟩
  refine⟨gs,ns,rfl,fun b hb=>.inr ⟨G,b,d',V3,rfl,s03,hd',SD,free L.sub hb,gs,ns,nd,?_⟩⟩
  have s5:=Mem.sub_new hb (.cells (qGQ d' gs ns qAt qAt ((0:Nat):Int)).toArray 88 (0,0))
  exact⟨Mem.set_same _ _ _,L.grow s5,Own.nil (L.sub.trans s5) _ _,Own.nil (L.sub.trans s5) _ _,fun c hc=>absurd rfl hc.1,fun n hn c hc=>absurd rfl hc.1⟩
def StepE(V0:Mem)(p:Nat)(d':Ds)(x:Gm)(log:List En)(ends:List Nat)(k:Nat)(lg en:Sl)(c:Int):Ending->Mem->Prop:=fun e V'=>e=.returned (.tuple #[.agg (qCZ 0 0 0 0).toArray,.int .i64 c])/\SA V0 V' p d' x log ends k lg en
theorem stepEv[Tab V0](S:SA V0 V p d' x log ends k lg en)(G:OkG d x)(SD:qEF d d')(hd':Ds.Ok V0 d'){F:Int}(hg:qAC d (gmM x) F≠0) :
  Tri Tryz.prog 35 #[pv p,.agg #[.string nm,l.v],.int .i64 F,.bool at'] V (StepE V0 p d' x log ends k lg en (qAC d (gmM x) F)):=by
 refine x35 (R:=StepE V0 p d' x log ends k lg en (qAC d (gmM x) F)) ?_
 unfold w35
 obtain⟨p0,gs,ns,nd,Sa⟩:=S
 have s0:=Sa.lay.sub
 have hp:(⟨gs,x.1,ns,nd⟩:Mm).plain=x:=by unfold Mm.plain;rw[Sa.lay.eq];rfl
 have G1:qAs d ⟨gs,x.1,ns,nd⟩:=G.to hp
 have G2:qAs d' ⟨gs,x.1,ns,nd⟩:=G1.same SD
 have Gx:OkG d' x:=by grind [OkG.of]
 have hm:=(Sa.mm hd' Gx).1
 have hE:qAC d' ⟨gs,x.1,ns,nd⟩ F=qAC d (gmM x) F:=by
  unfold qAC
  rw[if_pos G2,if_pos (show qAs d (gmM x) from G)]
 rw[<- hE]at hg ⊢
 haveI:Tab V:=Tab.sub (V:=V0) inferInstance s0
 refine⟨fun h=>absurd h nn,fun _=>⟨nn,nn,_,_,_,_,_,_,_,_,Sa.read (j:=0) (n:=8) (by decide),nn,nn,gs,ns,Sa.read (j:=8) (n:=2) (by decide),Tri.mono (runEv (m:=⟨gs,x.1,ns,nd⟩) (hd'.sub s0) hm hg) ?_⟩⟩
 rintro _ V1 ⟨s1,rfl⟩
 exact⟨_,_,_,_,_,_,_,_,rfl,fun h=>absurd h hg,fun _=>⟨rfl,p0,gs,ns,nd,Sa.grow s1⟩⟩
def OneP(P:Ending->Mem->Prop):Prop:=∀e V,P e V->∃a b c d f g:Int,e=.returned (.tuple #[.agg #[.int .i64 a,.int .i64 b,.int .i64 c,.int .i64 d,.int .i64 f],.int .i64 g])
theorem c10{P:Ending->Mem->Prop}(h1:OneP P){q:Option Addr}{F:Int}(H:Tri Tryz.prog 35 #[.pointer q,.agg #[.string nm,l.v],.int .i64 F,.bool false] V P):Tri Tryz.prog 10 #[.pointer q,.agg #[.string nm,l.v],.int .i64 F] V P:=by
 refine x10 (R:=P) ?_
 unfold w10
 refine Tri.mono H fun e V1 h=>?_
 obtain⟨a,b,c,d,f,g,rfl⟩:=h1 e V1 h
 grind
theorem c11{P:Ending->Mem->Prop}(h1:OneP P){q:Option Addr}{F:Int}(H:Tri Tryz.prog 35 #[.pointer q,.agg #[.string nm,l.v],.int .i64 F,.bool true] V P):Tri Tryz.prog 11 #[.pointer q,.agg #[.string nm,l.v],.int .i64 F] V P:=by
 refine x11 (R:=P) ?_
 unfold w11
 refine Tri.mono H fun e V1 h=>?_
 obtain⟨a,b,c,d,f,g,rfl⟩:=h1 e V1 h
 grind
end
section
variable{W V V':Mem}{p:Nat}{d:Ds}{x:Gm}{log:List En}{ends:List Nat}{k:Int}{lg en:Sl}
theorem SA.after(S:SA W V p d x log ends k lg en)(hs:V.sub V'):∃W',W.sub W'/\W'.sub V'/\SA W' V' p d x log ends k lg en/\∀b o,V b=none->V' b=some o->W' b=some o:=by
 obtain⟨p0,gs,ns,nd,S⟩:=S
 obtain⟨M,hM⟩:∃M:Nat->Prop,M=fun c=>c=p∨Blk gs c∨Blk ns c∨Blk lg c∨Blk en c∨∃n∈nd,Blk n.sl c:=⟨_,rfl⟩
 have own:∀{e sz:Nat} {s:Sl} {vs:List Value},Sx.Own W V e sz s vs->∀c,Blk s c->V c≠none/\W c=none:=fun {e sz s vs} o c hc=>⟨by grind [Own.some],Own.none0 o hc⟩
 have hin:∀c,M c->V c≠none/\W c=none:=fun c hc=>by
  rw[hM]at hc
  rcases hc with rfl|h|h|h|h|⟨n,hn,h⟩
  ·exact⟨by rw[S.at_];simp,p0⟩
  ·exact own S.lay.glob c h
  ·exact own S.lay.nodes c h
  ·exact own S.lgo c h
  ·exact own S.eno c h
  ·exact own (S.lay.fld n hn) c h
 have go:∀{e sz:Nat} {s:Sl} {vs:List Value},(∀c,Blk s c->M c)->Sx.Own W V e sz s vs->Sx.Own (Mem.minus V' M) V' e sz s vs:=fun {e sz s vs} hm h=>⟨qBH,h.len,by
  rcases h.cases0 with h1|⟨hc,g,cur,h1,h2,h3,h4⟩
  ·exact .inl h1
  ·exact .inr ⟨g,cur,h1,qBT (hm g ⟨hc,h1⟩),hs _ _ h3,h4⟩⟩
 refine⟨Mem.minus V' M,fun b o hb=>?_,qBH,⟨qBT (by simp_all),gs,ns,nd,hs _ _ S.at_,⟨go (fun c h=>by simp_all) S.lay.glob,go (fun c h=>by simp_all) S.lay.nodes,Own.nil qBH _ _,fun n hn=>go (fun c h=>by grind) (S.lay.fld n hn),S.lay.eq,S.lay.gf,S.lay.ff⟩,go (fun c h=>by simp_all) S.lgo,go (fun c h=>by simp_all) S.eno,S.eg,S.ef⟩,fun b o hb hb'=>?_⟩
 ·rw[qAV fun hm=>by grind];exact hs _ _ (S.lay.sub _ _ hb)
 grind [qAV]
end
def rbS(l1 l2:Sl):S:=.mk 1 awN l2 [awE l1] qAt [] qAt []
def rbP(ps bs l1 l2:Sl):Pr:=⟨qAl [97,100,100],ps,[⟨awK,awI⟩],qAl [],qAt,[],bs,[rbS l1 l2]⟩
def rbD(gs pr ps bs l1 l2:Sl):Ds:=⟨qAl [115,117,109],qAt,[],gs,[⟨awN,awI⟩],pr,[rbP ps bs l1 l2],qAt,[],qAt,[],qAt,[],qAt,[]⟩
def adds:ByteArray:=qAl [97,100,100]
section
variable{gs pr ps bs l1 l2:Sl}
theorem rb_valid:qAK (rbD gs pr ps bs l1 l2)=true:=by kernel_rfl
theorem rb_chk:qHg (rbD gs pr ps bs l1 l2)=none:=by kernel_rfl
theorem rb_mem1:qBr (rbD gs pr ps bs l1 l2) (gmM ([1],[]))=true:=by kernel_rfl
theorem rb_mem3:qBr (rbD gs pr ps bs l1 l2) (gmM ([3],[]))=true:=by kernel_rfl
theorem rb_cll1:qCN (rbD gs pr ps bs l1 l2) (gmM ([1],[])) adds [2]=0:=by kernel_rfl
theorem rb_cll3:qCN (rbD gs pr ps bs l1 l2) (gmM ([3],[])) adds [3]=0:=by kernel_rfl
theorem rb_idx:qDJ (rbD gs pr ps bs l1 l2) adds=0:=by kernel_rfl
theorem rb_run1:(fun r:Rx Int=>(qKb r,r.st.g,r.st.ns)) (qCn (rbD gs pr ps bs l1 l2) 5 0 [2] (gst ([1],[])))=(0,[3],[]):=by kernel_rfl
theorem rb_run3:(fun r:Rx Int=>(qKb r,r.st.g,r.st.ns)) (qCn (rbD gs pr ps bs l1 l2) 5 0 [3] (gst ([3],[])))=(0,[6],[]):=by kernel_rfl
theorem c24{V:Mem}:Tri Tryz.prog 24 #[] V fun e V'=>∃gs pr ps bs l1 l2,e=.returned (rbD gs pr ps bs l1 l2).v/\V.sub V'/\Ds.Ok V' (rbD gs pr ps bs l1 l2):=by
 refine x24 ?_
 unfold w24
 intro b0 h0 b1 h1 b2 h2 b3 h3 b4 h4 b5 h5
 have s0:=fun o=>Mem.sub_new h0 o
 have s1:=fun o=>Mem.sub_new h1 o
 have s2:=fun o=>Mem.sub_new h2 o
 have s3:=fun o=>Mem.sub_new h3 o
 have s4:=fun o=>Mem.sub_new h4 o
 have s5:=fun o=>Mem.sub_new h5 o
 refine⟨qJC b0 1,qJC b5 1,qJC b1 1,qJC b4 1,qJC b2 2,qJC b3 1,rfl,(s0 _).trans ((s1 _).trans ((s2 _).trans ((s3 _).trans ((s4 _).trans (s5 _))))),?_⟩
 have k0:=((s1 _).trans ((s2 _).trans ((s3 _).trans ((s4 _).trans (s5 (.cells #[.string adds,.slice (sa b1) 1 1,.string (qAl []),.slice none 0 0,.slice (sa b4) 1 1] 121 (0,0))))))) _ _ mss
 have k1:=((s2 _).trans ((s3 _).trans ((s4 _).trans (s5 (.cells #[.string adds,.slice (sa b1) 1 1,.string (qAl []),.slice none 0 0,.slice (sa b4) 1 1] 121 (0,0)))))) _ _ mss
 have k2:=((s3 _).trans ((s4 _).trans (s5 (.cells #[.string adds,.slice (sa b1) 1 1,.string (qAl []),.slice none 0 0,.slice (sa b4) 1 1] 121 (0,0))))) _ _ mss
 have k3:=((s4 _).trans (s5 (.cells #[.string adds,.slice (sa b1) 1 1,.string (qAl []),.slice none 0 0,.slice (sa b4) 1 1] 121 (0,0)))) _ _ mss
 have k4:=(s5 (.cells #[.string adds,.slice (sa b1) 1 1,.string (qAl []),.slice none 0 0,.slice (sa b4) 1 1] 121 (0,0))) _ _ mss
 have hE:E.Ok _ (awE (qJC b2 2)):=.mk (qAd.cells (row:=E.row) (xs:=[.mk 4 0 awN qAt [],.mk 4 0 awK qAt []]) k2 rfl (fun _=>rfl) rfl (by simp)) (fun x hx=>by
  simp only[List.mem_cons,List.not_mem_nil,or_false]at hx
  rcases hx with rfl|rfl <;> exact nameOk) (by decide) (by decide)
 have hS:S.Ok _ (rbS (qJC b2 2) (qJC b3 1)):=.mk (qAd.cells (row:=E.row) (xs:=[awE (qJC b2 2)]) k3 rfl (fun _=>rfl) rfl (by simp)) (fun x hx=>by
  simp_all) qAd.nil (by simp) qAd.nil (by simp) (by decide)
 exact⟨qAd.nil,by simp[rbD],qAd.cells (row:=Fld.row) (xs:=[⟨awN,awI⟩]) k0 rfl (fun _=>rfl) rfl (by simp),qAd.cells (row:=Pr.row) (xs:=[rbP (qJC b1 1) (qJC b4 1) (qJC b2 2) (qJC b3 1)]) mss rfl (fun _=>rfl) rfl (by simp),fun x hx=>by
  simp only[rbD,List.mem_cons,List.not_mem_nil,or_false]at hx
  subst hx
  exact⟨qAd.cells (row:=Fld.row) (xs:=[⟨awK,awI⟩]) k1 rfl (fun _=>rfl) rfl (by simp),qAd.nil,qAd.cells (row:=S.row) (xs:=[rbS (qJC b2 2) (qJC b3 1)]) k4 rfl (fun x=>by rw[S.row_eq];rfl) rfl (by simp),fun y hy=>by
   simp only[rbP,List.mem_cons,List.not_mem_nil,or_false]at hy
   subst hy;exact hS⟩,qAd.nil,by simp[rbD],qAd.nil,by simp[rbD],qAd.nil,by simp[rbD],qAd.nil,by simp[rbD]⟩
end
end Go.Proofs
