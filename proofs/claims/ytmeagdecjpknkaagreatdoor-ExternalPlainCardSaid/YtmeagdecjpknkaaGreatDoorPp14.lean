/- Part 14 of a proof of a law of this seat: no statement of the seat is proved here. -/
import Derived.Test.YtmeagdecjpknkaaGreatDoorPp13
import Derived.Test.YtmeagdecjpknkaaGreatDoorPp11
import Derived.Test.YtmeagdecjpknkaaGreatDoorPp12
set_option linter.unusedVariables false
set_option linter.unusedSimpArgs false
namespace Go.Proofs
open Go Go.Sx
attribute [local irreducible] Go.Sx.Tri
structure NI (V:Mem) (d:Ds) (cb mt mp p1 p3:Nat) (f g:ByteArray->Option Value) (V1:Mem):Prop where
 sub:V.sub V1
 nt:V mt=none
 np:V mp=none
 ne:mt≠mp
 ck:V1 cb=some (.cells (d.row++[Value.map (some mt),Value.map (some mp)]).toArray 272 (0,0))
 b1:V1 p1=some (.cells d.row.toArray 30 (0,0))
 b3:V1 p3=some (cell (pv cb) 234)
 mapT:qBk V1 mt f
 mapP:qBk V1 mp g
section
variable{V V1:Mem}{d:Ds}{cb mt mp p1 p3:Nat}{f g f' g':ByteArray->Option Value}
theorem NI.fresh(h:NI V d cb mt mp p1 p3 f g V1){b:Nat}(hb:V1 b=none)(o:Obj):NI V d cb mt mp p1 p3 f g (V1.set b o) :=
 have hs:=Mem.sub_new hb o
 ⟨h.sub.trans hs,h.nt,h.np,h.ne,hs _ _ h.ck,hs _ _ h.b1,hs _ _ h.b3,h.mapT.sub hs,h.mapP.sub hs⟩
theorem qEv{V:Mem}{b m:Nat}{c:Array Value}{t:Nat}{fr:Nat×Nat}{f:ByteArray->Option Value}(h:V b=some (.cells c t fr))(hm:qBk V m f):b≠m:=fun e=>by
 obtain⟨es,cl,hm,-,-⟩:=hm.at_
 simp_all
theorem NI.upT(h:NI V d cb mt mp p1 p3 f g V1){o:Obj}(ho:qBk (V1.set mt o) mt f'):NI V d cb mt mp p1 p3 f' g (V1.set mt o) :=
 ⟨h.sub.set h.nt o,h.nt,h.np,h.ne,by rw[Mem.set_ne (qEv h.ck h.mapT)];exact h.ck,by rw[Mem.set_ne (qEv h.b1 h.mapT)];exact h.b1,by rw[Mem.set_ne (qEv h.b3 h.mapT)];exact h.b3,ho,h.mapP.set (Ne.symm h.ne)⟩
theorem NI.upP(h:NI V d cb mt mp p1 p3 f g V1){o:Obj}(ho:qBk (V1.set mp o) mp g'):NI V d cb mt mp p1 p3 f g' (V1.set mp o) :=
 ⟨h.sub.set h.np o,h.nt,h.np,h.ne,by rw[Mem.set_ne (qEv h.ck h.mapP)];exact h.ck,by rw[Mem.set_ne (qEv h.b1 h.mapP)];exact h.b1,by rw[Mem.set_ne (qEv h.b3 h.mapP)];exact h.b3,h.mapT.set h.ne,ho⟩
theorem NI.cg(h:NI V d cb mt mp p1 p3 f g V1)(e1:∀k,f k=f' k)(e2:∀k,g k=g' k):NI V d cb mt mp p1 p3 f' g' V1:=⟨h.sub,h.nt,h.np,h.ne,h.ck,h.b1,h.b3,h.mapT.congr e1,h.mapP.congr e2⟩
theorem newRoundT(h:NI V d cb mt mp p1 p3 f g V1){bx:Nat}{v:Value}{ty:Nat}(hbx:V1 bx=some (cell v ty))(x:Ty)(V2:Mem)(b:Nat)(hb:V1 b=none)(e2:V2=V1.set b (.cells x.row.toArray 98 (0,0))) :
  Seg Tryz.prog 38 c158c [(3,pv p3),(5,pv b)] [] V2 fun _ V3=>NI V d cb mt mp p1 p3 (fun k=>if k=x.name then some x.v else f k) g V3/\V3 bx=some (cell v ty):=by
 subst e2
 have h2:=h.fresh hb (.cells x.row.toArray 98 (0,0))
 have hbx2:=Mem.sub_new hb (.cells x.row.toArray 98 (0,0)) _ _ hbx
 refine s158c ?_
 unfold w158c
 refine⟨_,qBD h2.b3,by simp,by simp,some mt,qAd h2.ck 8 1 (by simp[Ds.row]),by simp,x.name,qAd mss 0 1 (by simp[Ty.row]),x.name,x.fs,qAd mss 0 2 (by simp[Ty.row]),?_⟩
 exact qDu.str Tryz.underlying269 Tryz.underlying9 h2.mapT fun o ho=>⟨_,rfl,h2.upT ho,by rw[Mem.set_ne (qEv hbx2 h2.mapT)];exact hbx2⟩
theorem newRoundP(h:NI V d cb mt mp p1 p3 f g V1){bx:Nat}{v:Value}{ty:Nat}(hbx:V1 bx=some (cell v ty))(x:Pr)(V2:Mem)(b:Nat)(hb:V1 b=none)(e2:V2=V1.set b (.cells x.row.toArray 143 (0,0))) :
  Seg Tryz.prog 38 c158f [(3,pv p3),(7,pv b)] [] V2 fun _ V3=>NI V d cb mt mp p1 p3 f (fun k=>if k=x.name then some x.v else g k) V3/\V3 bx=some (cell v ty):=by
 subst e2
 have h2:=h.fresh hb (.cells x.row.toArray 143 (0,0))
 have hbx2:=Mem.sub_new hb (.cells x.row.toArray 143 (0,0)) _ _ hbx
 refine s158f ?_
 unfold w158f
 refine⟨_,qBD h2.b3,by simp,by simp,some mp,qAd h2.ck 9 1 (by simp[Ds.row]),by simp,x.name,qAd mss 0 1 (by simp[Pr.row]),x.name,x.ps,x.result,x.ls,x.bs,qAd mss 0 5 (by simp[Pr.row]),?_⟩
 exact qDu.str Tryz.underlying270 Tryz.underlying9 h2.mapP fun o ho=>⟨_,rfl,h2.upP ho,by rw[Mem.set_ne (qEv hbx2 h2.mapP)];exact hbx2⟩
theorem newAssignT(x:Ty):Seg Tryz.prog 38 c158b [(3,pv p3),(17,Ty.v x)] [3,5] V1 fun vs V2=>∃b,V1 b=none/\V2=V1.set b (.cells x.row.toArray 98 (0,0))/\vs=[pv p3,pv b]:=by
 refine s158b (b:=x.name) (c:=x.fs) ?_
 unfold w158b
 exact fun b hb=>⟨_,rfl,b,hb,rfl,rfl⟩
theorem newAssignP(x:Pr):Seg Tryz.prog 38 c158e [(3,pv p3),(29,Pr.v x)] [3,7] V1 fun vs V2=>∃b,V1 b=none/\V2=V1.set b (.cells x.row.toArray 143 (0,0))/\vs=[pv p3,pv b]:=by
 refine s158e (b:=x.name) (c:=x.ps) (d:=x.result) (g:=x.ls) (i:=x.bs) ?_
 unfold w158e
 exact fun b hb=>⟨_,rfl,b,hb,rfl,rfl⟩
end
theorem qKI{N:Nat}{a:Act}{p q r:Nat}{l:List (Nat×Value)}{vr u z:Value}(hH:Has N a l)(hr:l.lookup r=some vr)(hp:r≠p)(hq:r≠q)(hlt:q<N):Has N { tmps:=(#[p,q].zip #[u,z]).foldl (fun t (p,v)=>t.setIfInBounds p v) a.tmps,defers:=[] } [(r,vr),(q,z)]:=by
 refine⟨by rw[qJY];simpa using hH.1,fun s v hs=>?_⟩
 rw[qJY]
 simp only[List.lookup_cons]at hs
 split at hs
 ·rename_i e;simp only[beq_iff_eq]at e;subst e;cases hs
  rw[qHO hq,qHO hp];exact hH.get hr
 ·split at hs
  ·rename_i e;simp only[beq_iff_eq]at e;subst e;cases hs
   exact getD_same (by simp[hH.1,hlt])
  ·cases hs
theorem mark_keep{V V1:Mem}{w w1:World}{D:Nat}(h:Frm V w V1 w1)(hn:V D=none)(hW:w.heap[D]?=some (.deferred (some []))):w1.heap[D]?=some (.deferred (some []))/\V1 D=none:=by
 have hlt:=(Array.getElem?_eq_some_iff.1 hW).1
 refine⟨(h.old D hlt hn).trans hW,?_⟩
 cases hc:V1 D with
 | none=>rfl
 | some o =>
  rcases h.dom D (by rw[hc];simp) with h|h
  ·grind
  ·omega
theorem find_drop{α:Type}{l:List α}{nm:α->ByteArray}{vv:α->Value}{k:Nat}{x:α}(hx:l[k]?=some x)(y:ByteArray) :
  (if y=nm x then some (vv x) else ((l.drop (l.length-(l.length-1-k))).find? fun t=>decide (nm t=y)).map vv)=((l.drop (l.length-(l.length-k))).find? fun t=>decide (nm t=y)).map vv:=by
 have hk:=(List.getElem?_eq_some_iff.1 hx).1
 rw[show l.length-(l.length-1-k)=k+1 by omega,show l.length-(l.length-k)=k by omega]
 have e3:l.drop k=x::l.drop (k+1):=by
  grind [List.drop_eq_getElem_cons,List.getElem?_eq_some_iff]
 grind
theorem newC:NewC:=by
 intro V d hd
 refine qHe (c:=qAn Tryz.f158) Tryz.func158 (by kernel_rfl) ?_
 intro w hV
 rw[show flat (qAn Tryz.f158)=c158a++([.block 0 (.rangeFunc (.tmp 15) #[16,17] ((qCk (qAn Tryz.f158) [3,0,0,0]).getD 0 .skip) ((qCk (qAn Tryz.f158) [3,0,0,1]).getD 0 .skip))] ++
  (c158d++([.block 2 (.rangeFunc (.tmp 27) #[28,29] ((qCk (qAn Tryz.f158) [5,0,0,0]).getD 0 .skip) ((qCk (qAn Tryz.f158) [5,0,0,1]).getD 0 .skip))]++(c158g++[.ret])))) from by kernel_rfl]
 have hA:Seg Tryz.prog 38 c158a [(0,d.v)] [1,3,15] V fun vs V1=>∃cb mt mp p1 p3 bx,
   vs=[pv p1,pv p3,.func (.func 218) #[] #[pv bx]]/\NI V d cb mt mp p1 p3 (fun _=>none) (fun _=>none) V1/\V1 bx=some (cell (.slice d.ts.p d.ts.n d.ts.c) 22):=by
  refine s158a (a:=d.name) (b:=d.ts) (c:=d.gs) (d:=d.ps) (g:=d.ms) (i:=d.is) (j:=d.qs) (k:=d.bs) ?_
  unfold w158a
  refine GenK.makeMap fun mt hmt=>⟨some mt,rfl,GenK.makeMap fun mp hmp=>⟨some mp,rfl,?_⟩⟩
  refine Tri.mono c189 ?_
  rintro _ V2 ⟨bx,hbx,rfl,rfl⟩
  refine⟨.func (.func 218) #[] #[pv bx],rfl,rfl,fun p1 hp1 cb hcb p3 hp3=>⟨_,rfl,cb,mt,mp,p1,p3,bx,rfl,?_,?_⟩⟩
  all_goals
   have s1:=Mem.sub_new hmt (.map #[] 0)
   have s2:=Mem.sub_new hmp (.map #[] 0)
   have s3:=Mem.sub_new hbx (cell (.slice d.ts.p d.ts.n d.ts.c) 22)
   have s4:=Mem.sub_new hp1 (.cells d.row.toArray 30 (0,0))
   have s5:=Mem.sub_new hcb (.cells (d.row++[Value.map (some mt),Value.map (some mp)]).toArray 272 (0,0))
   have s6:=Mem.sub_new hp3 (cell (pv cb) 234)
  ·have nmp:mt≠mp:=fun e=>by grind [Mem.set_same]
   refine⟨s1.trans (s2.trans (s3.trans (s4.trans (s5.trans s6)))),hmt,?_,nmp,s6 _ _ mss,(s5.trans s6) _ _ mss,Mem.set_same _ _ _,(qBk.made V mt).sub (s2.trans (s3.trans (s4.trans (s5.trans s6)))),(qBk.made (V.set mt (.map #[] 0)) mp).sub (s3.trans (s4.trans (s5.trans s6)))⟩
   cases hv:V mp with
   | none=>rfl
   | some o=>have:=s1 _ _ hv;simp_all
  ·exact(s4.trans (s5.trans s6)) _ _ mss
 refine hA.step hV (qHN (args:=[d.v]) (N:=38) (by simp)) ?_
 rintro a1 w1 vs V1 hd1 hH1 ⟨cb,mt,mp,p1,p3,bx,rfl,hN1,hbx1⟩ hF1
 show Code.wpIn (qAz none) 0 Tryz.prog _ _ a1 w1
 refine wpIn_block ?_
 have hit:=fun fn lp D hlp=>it218 (V:=V1) (fn':=fn) (tmps:=a1.tmps) (ps:=#[16,17]) (assign:=(qCk (qAn Tryz.f158) [3,0,0,0]).getD 0 .skip) (body:=(qCk (qAn Tryz.f158) [3,0,0,1]).getD 0 .skip) (D:=D) (l:=lp) (bx:=bx) (s:=d.ts) (xs:=d.types)
  (J:=fun i V2=>NI V d cb mt mp p1 p3 (fun y=>((d.types.drop (d.types.length-i)).find? fun t=>decide (t.name=y)).map Ty.v) (fun _=>none) V2/\V2 bx=some (cell (.slice d.ts.p d.ts.n d.ts.c) 22)) rfl (fun i V2 hj _=>⟨hj.2,hd.types.sub hj.1.sub⟩) (fun k x hx V2 hj hl2 w2 hw2=>by
   refine qGF (N:=38) (insA:=[(3,pv p3),(17,Ty.v x)]) (outsA:=[3,5]) hl2 hw2 (qKI (u:=.int .i64 k) (z:=Ty.v x) (p:=16) (q:=17) (r:=3) hH1 rfl (by decide) (by decide) (by decide)).1 (qKI (p:=16) (q:=17) (r:=3) hH1 rfl (by decide) (by decide) (by decide)).2 (newAssignT x) (fun vs V3 hvs=>?_)
   obtain⟨b,hb,e2,rfl⟩:=hvs
   exact(newRoundT hj.1 hj.2 x V3 b hb e2).mono fun _ V4 h4=>⟨h4.1.cg (find_drop (nm:=Ty.name) (vv:=Ty.v) hx) fun _=>rfl,h4.2⟩)
  ⟨by simpa using hN1,hbx1⟩ hlp
 refine qGJ (Φ:=fun V2=>NI V d cb mt mp p1 p3 (fun y=>(qJq d y).map Ty.v) (fun _=>none) V2) hF1.le (hH1.get (s:=15) rfl) Tryz.call218 (fun fn lp D hlp=>Tri.mono (hit fn lp D hlp) fun e V' h=>?_) ?_
 ·obtain⟨h1,V2,h2,h3,h4⟩:=h
  exact⟨h1,V2,h2,h3,by simpa [qJq]using h4.1⟩
 intro D V2 W hD hF2 hn2 hW hN2
 show wpL none 0 Tryz.prog _ (c158d++_) _ W
 have hS:Seg Tryz.prog 38 c158d [(1,pv p1),(3,pv p3)] [3,27] V2 fun vs V3=>∃bx,vs=[pv p3,.func (.func 219) #[] #[pv bx]]/\NI V d cb mt mp p1 p3 (fun y=>(qJq d y).map Ty.v) (fun _=>none) V3/\V3 bx=some (cell (.slice d.ps.p d.ps.n d.ps.c) 24):=by
  refine s158d ?_
  unfold w158d
  refine⟨by simp,d.ps,qAd hN2.b1 3 1 (by simp[Ds.row]),?_⟩
  refine Tri.mono c190 ?_
  rintro _ V3 ⟨bx,hbx,rfl,rfl⟩
  exact⟨.func (.func 219) #[] #[pv bx],rfl,rfl,_,rfl,bx,rfl,hN2.fresh hbx _,Mem.set_same _ _ _⟩
 refine hS.step hF2.le ⟨hH1.1,fun s v hs=>hH1.2 s v ?_⟩ ?_
 ·grind [List.zip_cons_cons]
 rintro a3 w3 vs V3 hd3 hH3 ⟨bx2,rfl,hN3,hbx3⟩ hF3
 show Code.wpIn (qAz none) 0 Tryz.prog _ _ a3 w3
 refine wpIn_block ?_
 have hit2:=fun fn lp D hlp=>it219 (V:=V3) (fn':=fn) (tmps:=a3.tmps) (ps:=#[28,29]) (assign:=(qCk (qAn Tryz.f158) [5,0,0,0]).getD 0 .skip) (body:=(qCk (qAn Tryz.f158) [5,0,0,1]).getD 0 .skip) (D:=D) (l:=lp) (bx:=bx2) (s:=d.ps) (xs:=d.procs)
  (J:=fun i V2=>NI V d cb mt mp p1 p3 (fun y=>(qJq d y).map Ty.v) (fun y=>((d.procs.drop (d.procs.length-i)).find? fun t=>decide (t.name=y)).map Pr.v) V2/\V2 bx2=some (cell (.slice d.ps.p d.ps.n d.ps.c) 24)) rfl (fun i V2 hj _=>⟨hj.2,hd.procs.sub hj.1.sub⟩) (fun k x hx V2 hj hl2 w2 hw2=>by
   refine qGF (N:=38) (insA:=[(3,pv p3),(29,Pr.v x)]) (outsA:=[3,7]) hl2 hw2 (qKI (u:=.int .i64 k) (z:=Pr.v x) (p:=28) (q:=29) (r:=3) hH3 rfl (by decide) (by decide) (by decide)).1 (qKI (p:=28) (q:=29) (r:=3) hH3 rfl (by decide) (by decide) (by decide)).2 (newAssignP x) (fun vs V3 hvs=>?_)
   obtain⟨b,hb,e2,rfl⟩:=hvs
   exact(newRoundP hj.1 hj.2 x V3 b hb e2).mono fun _ V4 h4=>⟨h4.1.cg (fun _=>rfl) (find_drop (nm:=Pr.name) (vv:=Pr.v) hx),h4.2⟩)
  ⟨by simpa using hN3,hbx3⟩ hlp
 refine qGJ (Φ:=fun V2=>NI V d cb mt mp p1 p3 (fun y=>(qJq d y).map Ty.v) (fun y=>(qIm d y).map Pr.v) V2) hF3.le (hH3.get (s:=27) rfl) Tryz.call219 (fun fn lp D hlp=>Tri.mono (hit2 fn lp D hlp) fun e V' h=>?_) ?_
 ·obtain⟨h1,V2,h2,h3,h4⟩:=h
  exact⟨h1,V2,h2,h3,by simpa [qIm]using h4.1⟩
 intro D2 V4 W4 hD2 hF4 hn4 hW4 hN4
 show wpL none 0 Tryz.prog _ (c158g++_) _ W4
 have hS2:Seg Tryz.prog 38 c158g [(3,pv p3)] [2] V4 fun vs V5=>V5=V4/\vs=[pv cb]:=by
  refine s158g ?_
  unfold w158g
  exact⟨_,qBD hN4.b3,_,rfl,rfl,rfl⟩
 refine hS2.step hF4.le ⟨hH3.1,fun s v hs=>hH3.2 s v ?_⟩ ?_
 ·grind [List.zip_cons_cons]
 rintro a5 w5 vs V5 hd5 hH5 ⟨rfl,rfl⟩ hF5
 show Code.wpIn (qAz none) 0 Tryz.prog .ret _ a5 w5
 refine wpIn_ret ?_
 obtain⟨g1,g2,g3,g4⟩:=qFx hF1 hF2 hD hn2 hW hF3
 obtain⟨k1,k2,k3,k4⟩:=qFx g1 hF4 hD2 hn4 hW4 hF5
 obtain⟨m1,m2⟩:=mark_keep (hF4.trans hF5) g4 g3
 have hDlt:D<w3.heap.size:=(Array.getElem?_eq_some_iff.1 g3).1
 refine⟨.inr rfl,[D2,D],?_,by simp;omega,_,k1,fun D' hD'=>?_,_,fun w6 hw6=>results_tmp (t:=2) (by kernel_rfl) _ _ _,some ⟨cb,0,none⟩,by rw[hH5.get rfl],hN4.sub,?_⟩
 ·simp_all
 ·grind
 ·exact⟨⟨cb,mt,mp,272,rfl,hN4.ck,hN4.mapT,hN4.mapP⟩,hd.sub hN4.sub⟩
section
variable{P:Program}{V:Mem}{ty:Nat}{vals:Operand->Value}
theorem GenK.shr{t u:TypeId}{x:Operand}{k kk:IntKind}{n c:Int}(hx:vals x=.int k n)(hy:vals (.const (.int kk c))=.int kk c)(hc:¬c<0){q:Value->Mem->Prop}(hq:q (.int k (n.fdiv (2 ^ (min c.toNat k.bits)))) V):GenK P (.binOp .shr t x (.const (.int kk c)) u) ty vals V q:=by
 intro w hw
 refine⟨_,w,V,?_,Frm.refl hw,hq⟩
 unfold execOp
 simp[hx,hy,binOp,Op.shift,hc,eqGuard]
theorem GenK.max2{a b:Operand}{ts:Array TypeId}{n1 n2:Int}(h1:vals a=.int .i64 n1)(h2:vals b=.int .i64 n2){q:Value->Mem->Prop}(hq:q (.int .i64 (if n1<n2 then n2 else n1)) V):GenK P (.call { callee:=.builtin .max,args:=#[a,b],argTypes:=ts }) ty vals V q:=by
 intro w hw
 refine⟨_,w,V,?_,Frm.refl hw,hq⟩
 unfold execOp
 simp only[resolve,invoke,builtin,Sem.run_bind,Sem.run_pure,Result.andThen_ok,List.map_toArray,List.map_cons,List.map_nil,h1,h2]
 rfl
theorem GenK.min2{a b:Operand}{ts:Array TypeId}{n1 n2:Int}(h1:vals a=.int .i64 n1)(h2:vals b=.int .i64 n2){q:Value->Mem->Prop}(hq:q (.int .i64 (if n2<n1 then n2 else n1)) V):GenK P (.call { callee:=.builtin .min,args:=#[a,b],argTypes:=ts }) ty vals V q:=by
 intro w hw
 refine⟨_,w,V,?_,Frm.refl hw,hq⟩
 unfold execOp
 simp only[resolve,invoke,builtin,Sem.run_bind,Sem.run_pure,Result.andThen_ok,List.map_toArray,List.map_cons,List.map_nil,h1,h2]
 rfl
theorem GenK.iface{t:TypeId}{ts:Array Field}{x:Operand}{v:Value}(ht:P.underlying t=some (.struct ts))(hx:vals x=v){q:Value->Mem->Prop}(hq:q (.iface t v) V):GenK P (.makeInterface t x) ty vals V q:=by
 intro w hw
 refine⟨_,w,V,?_,Frm.refl hw,hq⟩
 unfold execOp
 simp[hx,Instr.makeInterface,run_underlying ht,Sem.run_bind]
end
section
variable{V:Mem}
theorem qKR{n:Nat}{k:Nat}:((n:Int)).fdiv (2 ^ k)=((n / 2 ^ k:Nat):Int):=by
 grind
theorem inU(n:Nat)(h:n<18446744073709551616):K.inR .u64 (n:Int):=K.inR_iff.2 (by simp[IntKind.min,IntKind.max,IntKind.signed,IntKind.bits];omega)
end
abbrev qIA:ByteArray:=qAm [0,1,2,2,3,3,3,3,4,4,4,4,4,4,4,4,5,5,5,5,5,5,5,5,5,5,5,5,5,5,5,5,6,6,6,6,6,6,6,6,6,6,6,6,6,6,6,6,6,6,6,6,6,6,6,6,6,6,6,6,6,6,6,6,7,7,7,7,7,7,7,7,7,7,7,7,7,7,7,7,7,7,7,7,7,7,7,7,7,7,7,7,7,7,7,7,7,7,7,7,7,7,7,7,7,7,7,7,7,7,7,7,7,7,7,7,7,7,7,7,7,7,7,7,7,7,7,7,8,8,8,8,8,8,8,8,8,8,8,8,8,8,8,8,8,8,8,8,8,8,8,8,8,8,8,8,8,8,8,8,8,8,8,8,8,8,8,8,8,8,8,8,8,8,8,8,8,8,8,8,8,8,8,8,8,8,8,8,8,8,8,8,8,8,8,8,8,8,8,8,8,8,8,8,8,8,8,8,8,8,8,8,8,8,8,8,8,8,8,8,8,8,8,8,8,8,8,8,8,8,8,8,8,8,8,8,8,8,8,8,8,8,8,8,8,8,8,8,8,8,8,8,8,8,8,8]
def lenN(n:Nat):Int:=if n=0 then 0 else (Nat.log2 n:Int)+1
theorem lenTab_at{n:Nat}(h:n<256):qAZ qIA (n:Int)=lenN n:=by
 have:((List.range 256).all fun n=>decide (qAZ qIA (n:Int)=lenN n))=true:=by kernel_rfl
 simp_all
theorem log2_shift{n k:Nat}(h:2 ^ k<=n):Nat.log2 n=k+Nat.log2 (n / 2 ^ k):=by
 have hp:0<2 ^ k:=Nat.two_pow_pos k
 have h0:n / 2 ^ k≠0:=by
  simp_all
 have hn:n≠0:=by omega
 have key:∀j,j<=Nat.log2 (n / 2 ^ k)↔k+j<=Nat.log2 n:=fun j=>by
  rw[Nat.le_log2 h0,Nat.le_log2 hn,Nat.le_div_iff_mul_le hp,<- Nat.pow_add,Nat.add_comm]
 have h1:=(key (Nat.log2 (n / 2 ^ k))).1 (Nat.le_refl _)
 have h2:k<=Nat.log2 n:=(Nat.le_log2 hn).2 h
 have h3:=(key (Nat.log2 n-k)).2 (by omega)
 omega
theorem qDD{n k:Nat}(h:2 ^ k<=n):lenN n=k+lenN (n / 2 ^ k):=by
 have hp:0<2 ^ k:=Nat.two_pow_pos k
 have h0:n / 2 ^ k≠0:=by
  simp_all
 unfold lenN
 rw[if_neg (by omega),if_neg h0,log2_shift h]
 omega
theorem lenN_small{n:Nat}(h:n<256):0<=lenN n/\lenN n<=8:=by
 unfold lenN
 split
 ·omega
 ·rename_i h0
  have:Nat.log2 n<8:=(Nat.log2_lt h0).2 h
  omega
section
variable{V:Mem}
theorem c303{n:Nat}(hn:n<=1099511627776):PP 303 [.int .u64 n] V (.int .i64 (lenN n)):=by
 refine x303 ?_
 unfold w303
 have shr:∀(k:Nat) (c:Int),min c.toNat IntKind.u64.bits=k->(n:Int).fdiv (2 ^ (min c.toNat IntKind.u64.bits))=((n / 2 ^ k:Nat):Int):=fun k c h=>by rw[h,qKR]
 have leaf:∀(k c:Nat),k<256->c<=64->lenN n=c+lenN k->∀v:Int,v=(k:Int)->∀c':Int,c'=(c:Int)->K.inR .u8 v/\(0<=v/\v<(qIA.size:Int))/\IR (qAZ qIA v)/\IR (c'+qAZ qIA v)/\(rV (uI (c'+qAZ qIA v))=Ending.returned (.int .i64 (lenN n))/\V=V):=by
  rintro k c h1 h2 h3 _ rfl _ rfl
  have h4:=lenN_small h1
  have hs:qIA.size=256:=by kernel_rfl
  rw[lenTab_at h1,hs,h3]
  exact⟨⟨by omega,by omega⟩,⟨by omega,by omega⟩,⟨by omega,by omega⟩,⟨by omega,by omega⟩,rfl,rfl⟩
 refine⟨fun h1=>GenK.shr rfl rfl (by decide) ⟨_,rfl,?_⟩,fun h1=>⟨fun h2=>GenK.shr rfl rfl (by decide) ⟨_,rfl,⟨by omega,by omega⟩,?_⟩,fun h2=>⟨fun h3=>GenK.shr rfl rfl (by decide) ⟨_,rfl,⟨by omega,by omega⟩,?_⟩,fun h3=>?_⟩⟩⟩
 ·rw[shr 32 _ rfl]
  have e:=qDD (n:=n) (k:=32) (by omega)
  have hb:n / 2 ^ 32<=256:=by omega
  refine⟨fun h=>by omega,fun _=>⟨fun h2=>GenK.shr rfl rfl (by decide) ⟨_,rfl,⟨by omega,by omega⟩,?_⟩,fun h2=>leaf _ 32 (by omega) (by omega) (by omega) _ rfl _ rfl⟩⟩
  have e2:=qDD (n:=n / 2 ^ 32) (k:=8) (by omega)
  have:((n / 2 ^ 32:Nat):Int).fdiv (2 ^ (min (8:Int).toNat IntKind.u64.bits))=((n / 2 ^ 32 / 2 ^ 8:Nat):Int):=by
   rw[show min (8:Int).toNat IntKind.u64.bits=8 from rfl,qKR]
  rw[this]
  exact leaf _ 40 (by omega) (by omega) (by omega) _ rfl _ rfl
 ·rw[shr 16 _ rfl]
  have e:=qDD (n:=n) (k:=16) (by omega)
  refine⟨fun h=>GenK.shr rfl rfl (by decide) ⟨_,rfl,⟨by omega,by omega⟩,?_⟩,fun h=>leaf _ 16 (by omega) (by omega) (by omega) _ rfl _ rfl⟩
  have e2:=qDD (n:=n / 2 ^ 16) (k:=8) (by omega)
  have:((n / 2 ^ 16:Nat):Int).fdiv (2 ^ (min (8:Int).toNat IntKind.u64.bits))=((n / 2 ^ 16 / 2 ^ 8:Nat):Int):=by
   rw[show min (8:Int).toNat IntKind.u64.bits=8 from rfl,qKR]
  rw[this]
  exact leaf _ 24 (by omega) (by omega) (by omega) _ rfl _ rfl
 ·rw[shr 8 _ rfl]
  have e:=qDD (n:=n) (k:=8) (by omega)
  exact leaf _ 8 (by omega) (by omega) (by omega) _ rfl _ rfl
 ·exact leaf _ 0 (by omega) (by omega) (by omega) _ rfl _ rfl
theorem c272{n:Nat}(hn:n<=1099511627776):PP 272 [.int .u64 n] V (.int .i64 (lenN n)):=by
 refine x272 ?_
 unfold w272
 exact(c303 hn).call ⟨_,rfl,rfl,rfl⟩
end
def fltE(e:Int):Ending:=.panicked [{ v:=.iface 201 (.agg #[.int .i64 e]),recovered:=false }]
theorem GenK.panE{ty:Nat}{vals:Operand->Value}{V:Mem}{x:Operand}{e:Int}(hx:vals x=.agg #[.int .i64 e]){R:Ending->Mem->Prop}(h:R (fltE e) V) :
  GenK Tryz.prog (.makeInterface 201 x) ty vals V fun y V1=>∃v,K.r.ok v/\y=v/\∃t x,K.cast .r v=.iface t x/\R (.panicked [{ v:=.iface t x,recovered:=false }]) V1 :=
 GenK.iface Tryz.underlying201 hx ⟨.iface 201 (.agg #[.int .i64 e]),(rfl:K.cast .r (.iface 201 (.agg #[.int .i64 e]))=_),rfl,_,_,rfl,h⟩
def qBM(d:Ds)(F tk c cm:Int)(gs ns ls:Sl):List Value:=[Go.Sx.vS d.name,d.ts.v,d.gs.v,d.ps.v,d.ms.v,d.is.v,d.qs.v,d.bs.v,gs.v,ns.v,.int .i64 F,.int .i64 tk,.int .i64 c,.int .i64 cm,ls.v]
abbrev EM(V0:Mem)(d:Ds)(p F:Nat)(V:Mem)(s:St)(c:Nat):Prop:=MA 128 V0 p (qBM d F s.tk c s.cm) V s
theorem ntE:NT 128:=by unfold NT;decide
structure ES (V0:Mem) (d:Ds) (F:Nat):Prop where
 ds:Ds.Ok V0 d
 valid:qAE d=true
 procs:∀p∈d.procs,qCY d p
 fuel:F<=4000
theorem ES.sub{V0 W:Mem}{d:Ds}{F:Nat}(h:ES V0 d F)(hs:V0.sub W):ES W d F:=⟨h.ds.sub hs,h.valid,h.procs,h.fuel⟩
def PX(V0:Mem)(d:Ds)(p F c:Nat)(r:Rx Int):Ending->Mem->Prop:=fun e V'=>match r with
 | .ok v s=>e=.returned (.int .i64 v)/\EM V0 d p F V' s c
 | .bad k s=>e=fltE k/\∃c',EM V0 d p F V' s c'
def PB(r:Rs)(V:Mem):Ending->Mem->Prop:=fun e V'=>V'=V/\e=match r with | .ok v=>.returned (.int .i64 v) | .bad k=>fltE k
section
variable{V0 V V1:Mem}{d:Ds}{p F c:Nat}{s:St}
theorem c162{k:Int}{a:Option Addr}:Tri Tryz.prog 162 #[.pointer a,.int .i64 k] V fun e V'=>e=fltE k/\V'=V:=by
 refine x162 ?_
 unfold w162
 exact GenK.panE (e:=k) (R:=fun e V'=>e=fltE k/\V'=V) rfl ⟨rfl,rfl⟩
theorem qJi{k:Int}{a:Option Addr}{K:Mem->Prop}{R:Ending->Mem->Prop}(h:R (fltE k) V):Tri Tryz.prog 162 #[.pointer a,.int .i64 k] V fun e V'=>(e=.returned (.tuple #[])/\K V')∨∃ch,e=.panicked ch/\R e V' :=
 Tri.mono c162 fun _ _ ⟨he,hV⟩=>.inr ⟨_,he,by simp_all⟩
theorem PX.split{f:FuncId}{args:Array Value}{r:Rx Int}{K:Int->Mem->Prop}{R:Ending->Mem->Prop}(H:Tri Tryz.prog f args V (PX V0 d p F c r))(hb:∀k s c' V',r=.bad k s->EM V0 d p F V' s c'->R (fltE k) V')(ho:∀v s V',r=.ok v s->EM V0 d p F V' s c->K v V') :
  Tri Tryz.prog f args V fun e V'=>(∃v,e=.returned (.int .i64 v)/\K v V')∨∃ch,e=.panicked ch/\R e V' :=
 Tri.mono H fun e V' h=>by
  cases r with
  | ok v s=>exact .inl ⟨v,h.1,ho v s V' rfl h.2⟩
  | bad k s =>
   obtain⟨he,c',hm⟩:=h
   subst he
   exact .inr ⟨_,rfl,hb k s c' V' rfl hm⟩
theorem PB.split{f:FuncId}{args:Array Value}{r:Rs}{K:Int->Mem->Prop}{R:Ending->Mem->Prop}(H:Tri Tryz.prog f args V (PB r V))(hb:∀k,r=.bad k->R (fltE k) V)(ho:∀v,r=.ok v->K v V) :
  Tri Tryz.prog f args V fun e V'=>(∃v,e=.returned (.int .i64 v)/\K v V')∨∃ch,e=.panicked ch/\R e V' :=
 Tri.mono H fun e V' ⟨hV,he⟩=>by
  subst hV
  cases r with
  | ok v=>simp_all
  | bad k=>subst he;exact .inr ⟨_,rfl,hb k rfl⟩
theorem PX.bind{f:FuncId}{args:Array Value}{G r:Rx Int}{h:Int->St->Rx Int}{K:Int->Mem->Prop}(hG:G=r.bind h)(H:Tri Tryz.prog f args V (PX V0 d p F c r))(ho:∀v s V',r=.ok v s->EM V0 d p F V' s c->G=h v s->K v V') :
  Tri Tryz.prog f args V fun e V'=>(∃v,e=.returned (.int .i64 v)/\K v V')∨∃ch,e=.panicked ch/\PX V0 d p F c G e V' :=
 PX.split H (fun k s c' V' e hm=>by subst e;rw[hG];exact⟨rfl,c',hm⟩) fun v s V' e hm=>ho v s V' e hm (by rw[hG,e];rfl)
theorem PX.ok{G:Rx Int}{v:Int}(hG:G=.ok v s)(M:EM V0 d p F V s c):PX V0 d p F c G (.returned (.int .i64 v)) V:=by rw[hG];exact⟨rfl,M⟩
theorem PX.bad{G:Rx Int}{k:Int}(hG:G=.bad k s)(M:EM V0 d p F V s c):PX V0 d p F c G (fltE k) V:=by rw[hG];exact⟨rfl,c,M⟩
theorem PX.last{f:FuncId}{args:Array Value}{G r:Rx Int}(hG:G=r)(H:Tri Tryz.prog f args V (PX V0 d p F c r)) :
  Tri Tryz.prog f args V fun e V'=>(∃v,e=.returned (.int .i64 v)/\PX V0 d p F c G (.returned (.int .i64 v)) V')∨∃ch,e=.panicked ch/\PX V0 d p F c G e V':=by
 subst hG
 exact PX.split H (fun k s c' V' e hm=>by rw[e];exact⟨rfl,c',hm⟩) fun v s V' e hm=>by rw[e];exact⟨rfl,hm⟩
theorem PB.last{f:FuncId}{args:Array Value}{G:Rx Int}{r:Rs}(hG:G=liftR r s)(M:EM V0 d p F V s c)(H:Tri Tryz.prog f args V (PB r V)) :
  Tri Tryz.prog f args V fun e V'=>(∃v,e=.returned (.int .i64 v)/\PX V0 d p F c G (.returned (.int .i64 v)) V')∨∃ch,e=.panicked ch/\PX V0 d p F c G e V' :=
 PB.split H (fun k e=>PX.bad (by rw[hG,e];rfl) M) fun v e=>PX.ok (by rw[hG,e];rfl) M
theorem c276{b t:Nat}{s:ByteArray}(hb:V b=some (cell (.string s) t)){x:Fld}:PP 276 [x.v,pv b] V (.bool (decide (x.name=s))):=by
 refine x276 ?_
 unfold w276
 exact⟨_,qBD hb,rfl,rfl⟩
theorem c172:IdC 172 Fld.row Fld.v 2:=idC g172
theorem c173:IdC 173 Ty.row Ty.v 2:=idC g173
theorem c196:IdC 196 Pr.row Pr.v 5:=idC g196
theorem c242{l:Sl}{xs:List Fld}(h:qAc V l 2 (xs.map Fld.row)){s:ByteArray}:PP 242 [l.v,.string s] V (.int .i64 (qGv xs s)):=by
 refine Pur.mk (x242 ?_)
 unfold w242
 intro b hb
 have hs:=Mem.sub_new hb (cell (.string s) 9)
 exact(c172 (first:=[]) (caps:=[pv b]) (h.sub hs) Tryz.call276 (fun t=>decide (t.name=s)) (fun x _=>c276 mss)).call ⟨_,rfl,rfl,hs⟩
theorem c197{b t:Nat}{s:ByteArray}(hb:V b=some (cell (.string s) t)){x:Pr}:PP 197 [x.v,pv b] V (.bool (decide (x.name=s))):=by
 refine x197 ?_
 unfold w197
 exact⟨_,qBD hb,rfl,rfl⟩
theorem c160(h:Ds.Ok V d){s:ByteArray}:PP 160 [d.v,.string s] V (.int .i64 (qCP d s)):=by
 refine Pur.mk (x160 ?_)
 unfold w160
 intro b hb
 have hs:=Mem.sub_new hb (cell (.string s) 9)
 exact(c196 (first:=[]) (caps:=[pv b]) (h.procs.sub hs) Tryz.call197 (fun t=>decide (t.name=s)) (fun x _=>c197 mss)).call ⟨_,rfl,rfl,hs⟩
theorem c301{b t:Nat}{s:ByteArray}(hb:V b=some (cell (.string s) t)){x:Ty}:PP 301 [x.v,pv b] V (.bool (decide (x.name=s))):=by
 refine x301 ?_
 unfold w301
 exact⟨_,qBD hb,rfl,rfl⟩
theorem c270(S:ES V0 d F)(h:EM V0 d p F V s c){nm:ByteArray}:PP 270 [pv p,.string nm] V (.int .i64 (qDp d nm)):=by
 obtain⟨gs,ns,ls,nd,hat,L⟩:=h.ex
 refine Pur.mk (x270 ?_)
 unfold w270
 refine⟨nn,nn,pnn,d.ts,qAd hat 1 1 (by simp[qBM]),fun b hb=>?_⟩
 have hs:=Mem.sub_new hb (cell (.string nm) 9)
 exact(c173 (first:=[]) (caps:=[pv b]) (S.ds.sub (L.sub.trans hs)).types Tryz.call301 (fun t=>decide (t.name=nm)) (fun x _=>c301 mss)).call ⟨_,rfl,rfl,hs⟩
theorem c274{b:Bool}:PP 274 [.bool b] V (.int .i64 (trI b)):=by
 refine x274 ?_
 unfold w274
 refine⟨fun h=>?_,fun h=>?_⟩
 ·rw[h];exact⟨rfl,rfl⟩
 ·rw[(Bool.not_eq_true b).mp h];exact⟨rfl,rfl⟩
theorem c271{n:Int}{a:Option Addr}:Tri Tryz.prog 271 #[.pointer a,.int .i64 n] V (PB (big n) V):=by
 refine Tri.mono (x271 (R:=PB (big n) V) ?_) fun _ _ h=>h
 unfold w271
 have bad:¬(-1099511627776<=n/\n<=1099511627776)->PB (big n) V (fltE 5) V:=fun h=>⟨rfl,by grind [big]⟩
 refine⟨fun h=>qJi (bad (by omega)),fun h1=>⟨fun h=>qJi (bad (by omega)),fun h2=>⟨rfl,?_⟩⟩⟩
 grind [big]
theorem c304{n:Int}(h:-1099511627776<=n/\n<=1099511627776):PP 304 [.int .i64 n] V (.int .i64 (if n<0 then -n else n)):=by
 refine x304 ?_
 unfold w304
 refine⟨⟨by omega,by omega⟩,GenK.max2 rfl rfl ⟨_,rfl,?_⟩⟩
 grind
theorem mul_big{a b:Int}(ha:-1099511627776<=a/\a<=1099511627776)(hb:-1099511627776<=b/\b<=1099511627776)(h0:a≠0):((1099511627776:Int).tdiv (if a<0 then -a else a)<(if b<0 then -b else b))↔¬(-1099511627776<=a*b/\a*b<=1099511627776):=by
 obtain⟨x,hx⟩:∃x:Nat,(if a<0 then -a else a)=(x:Int):=⟨a.natAbs,by split <;> omega⟩
 obtain⟨y,hy⟩:∃y:Nat,(if b<0 then -b else b)=(y:Int):=⟨b.natAbs,by split <;> omega⟩
 have hxa:x=a.natAbs:=by omega
 have hyb:y=b.natAbs:=by omega
 have hx0:0<x:=by omega
 rw[hx,hy]
 have e1:(1099511627776:Int).tdiv (x:Int)=((1099511627776 / x:Nat):Int):=by
  rfl
 rw[e1]
 have e2:(a*b).natAbs=x*y:=by rw[Int.natAbs_mul,hxa,hyb]
 have e3:(-1099511627776<=a*b/\a*b<=1099511627776)↔x*y<=1099511627776:=by omega
 rw[e3]
 have e4:y<=1099511627776 / x↔y*x<=1099511627776:=Nat.le_div_iff_mul_le hx0
 grind
theorem mul_in{a b:Int}(_:-1099511627776<=a/\a<=1099511627776)(_:-1099511627776<=b/\b<=1099511627776)(h:a=0∨(-1099511627776<=a*b/\a*b<=1099511627776)):IR (a*b):=by
 rcases h with rfl|h
 ·rw[Int.zero_mul];exact⟨by omega,by omega⟩
 ·exact⟨by omega,by omega⟩
theorem quo_wrap{a:Int}(h:-1099511627776<=a/\a<=1099511627776){b:Int}:IntKind.wrap .i64 (a.tdiv b)=a.tdiv b:=by
 have:=tdiv_in (b:=b) h
 rw[IntKind.wrap_i64];omega
theorem c275{a:Option Addr}{op v w:Int}(ho:op=9∨op=10∨op=11∨op=12∨op=13∨op=22∨op=23)(hv:-1099511627776<=v/\v<=1099511627776)(hw:-1099511627776<=w/\w<=1099511627776):Tri Tryz.prog 275 #[.pointer a,.int .i64 op,.int .i64 v,.int .i64 w] V (PB (qFe op v w) V):=by
 refine Tri.mono (x275 (R:=PB (qFe op v w) V) ?_) fun _ _ h=>h
 unfold w275
 have sp:∀{n:Int},qFe op v w=big n->Tri Tryz.prog 271 #[.pointer a,.int .i64 n] V fun e V'=>(∃u,e=.returned (.int .i64 u)/\PB (qFe op v w) V (.returned (.int .i64 u)) V')∨∃ch,e=.panicked ch/\PB (qFe op v w) V e V':=fun e=>PB.split c271 (fun k hk=>⟨rfl,by rw[e,hk]⟩) fun n hn=>⟨rfl,by rw[e,hn]⟩
 have good:∀{n:Int},qFe op v w=.ok n->PB (qFe op v w) V (.returned (.int .i64 n)) V:=fun e=>⟨rfl,by rw[e]⟩
 have bad:∀{k:Int},qFe op v w=.bad k->PB (qFe op v w) V (fltE k) V:=fun e=>⟨rfl,by rw[e]⟩
 have hI:∀{n:Int},-2199023255552<=n/\n<=2199023255552->IR n:=fun h=>⟨by omega,by omega⟩
 have wr:=quo_wrap (b:=w) hv
 refine⟨fun h=>⟨hI (by omega),sp (by grind [qFe])⟩,fun h9=>⟨fun h=>⟨hI (by omega),sp (by grind [qFe])⟩,fun h10=>⟨fun h=>?_,fun h11=>⟨fun h=>?_,fun h12=>⟨fun h=>?_,fun h13=>⟨fun h=>?_,fun h22=>?_⟩⟩⟩⟩⟩⟩
 ·have e:qFe op v w=big (v*w):=by grind [qFe]
  have fit:(-1099511627776<=v*w/\v*w<=1099511627776)->PB (qFe op v w) V (.returned (.int .i64 (v*w))) V:=fun k=>good (by grind [big])
  refine⟨fun h0=>⟨mul_in hv hw (.inl h0),fit ?_⟩,fun h0=>?_⟩
  ·simp_all
  have h0:¬v=0:=h0
  have hq:IntKind.wrap .i64 ((1099511627776:Int).tdiv (if v<0 then -v else v))=(1099511627776:Int).tdiv (if v<0 then -v else v):=quo_wrap ⟨by omega,by omega⟩
  refine(c304 hw).call ⟨_,rfl,(c304 hv).call ⟨_,rfl,by split <;> omega,?_⟩⟩
  rw[hq]
  refine⟨fun k=>qJi (bad ?_),fun k=>?_⟩
  ·simp_all [big,if_neg,mul_big]
  simp_all [Classical.not_not,mul_big,mul_in,inr]
 ·have e:w≠0->qFe op v w=.ok (v.tdiv w):=fun k=>by grind [qFe]
  first|rw[wr] | (unfold w275_0;rw[wr])
  refine⟨fun h0=>qJi (bad ?_),fun h0=>⟨fun _=>⟨h0,good (e h0)⟩,fun k=>absurd h k⟩⟩
  grind [qFe]
 ·have e:w≠0->qFe op v w=.ok (v.tmod w):=fun k=>by grind [qFe]
  refine⟨fun h0=>qJi (bad ?_),fun h0=>⟨fun k=>absurd k h12,fun _=>⟨h0,good (e h0)⟩⟩⟩
  grind [qFe]
 ·exact GenK.max2 rfl rfl ⟨_,rfl,good (by grind [qFe])⟩
 ·have h23:op=23:=by
   omega
  exact GenK.min2 rfl rfl ⟨_,rfl,good (by grind [qFe])⟩
end
theorem qAB{c a b:Prop}(h:¬c)(hb:b):Br c a b:=⟨fun k=>absurd k h,fun _=>hb⟩
theorem qAM{c a b:Prop}(h:c)(ha:a):Br c a b:=⟨fun _=>ha,fun k=>absurd h k⟩
structure Fv (V0:Mem) (q:Nat) (pr:Pr) (vals:List Int):Prop where
 ex:∃a b:Sl,V0 q=some (.cells #[a.v,b.v] 243 (0,0))/\qAc V0 a 2 (pr.vars.map Fld.row)/\qAc V0 b 1 (vals.map qAe)
theorem qEA{V:Mem}{e:E}(he:E.Ok V e){i:Nat}{a:E}(h:e.k[i]?=some a):¬e.l.p=none/\(0:Int)<=(i:Int)/\(i:Int)<(e.l.n:Int)/\V.rowp e.l.p (i*4) 4=some [.int .i64 a.op,.int .i64 a.n,.string a.s,.slice a.l.p a.l.n a.l.c]:=by
 have hr:=he.rows
 have hn:=hr.n_eq
 have hl:=(List.getElem?_eq_some_iff.1 h).1
 obtain⟨y,-,hy,-,hl2,hp,hz,hrow⟩:=hr.get (i:=i) (by omega)
 rw[h]at hy;cases hy
 exact⟨hp,hz,by omega,hrow⟩
section
variable{V0 V V1:Mem}{d:Ds}{p F c q:Nat}{s:St}{pr:Pr}{vals:List Int}
theorem fieldT_idx{u nm t:ByteArray}(h:qCf d u nm=(t,0)):∃(j i:Nat) (tt:Ty) (f:Fld),qDp d u=(j:Int)/\d.types[j]?=some tt/\tt∈d.types/\qGv tt.fields nm=(i:Int)/\tt.fields[i]?=some f/\f.ty=t:=by
 unfold qCf at h
 cases hty:qJq d u with
 | none=>simp_all
 | some tt =>
  rw[hty]at h
  simp only at h
  split at h
  ·simp at h
  ·rename_i hl
   simp only[Prod.mk.injEq,and_true]at h
   grind [tyOf_idx,qEz,absurd,List.mem_of_getElem?]
theorem typC(S:ES V0 d F)(M:EM V0 d p F V s c)(fr:Fv V0 q pr vals)(hpo:qCY d pr)(G:qAx d s.mm)(hvs:qAg d s.mm pr.vars vals=true) :
  ∀(e:E) (t:ByteArray),VE e->E.Ok V0 e->qAq d (qAj d pr) e=(t,0)->PP 273 [pv p,pv q,e.v] V (.string t):=by
 intro e
 induction e using E.ind with
 | h e ih =>
 intro t hv he ht
 obtain⟨gs,ns,ls,nd,hat,L⟩:=M.ex
 obtain⟨fa,fb,hq0,hra0,-⟩:=fr.ex
 have hq:=L.sub _ _ hq0
 have hra:=hra0.sub L.sub
 have hd:=S.ds.sub L.sub
 have heV:=he.sub L.sub
 refine x273 ?_
 unfold w273
 have fin:∀{t':ByteArray},t'=t->(Ending.returned (.string t')=Ending.returned (.string t)/\V=V):=fun h=>⟨by rw[h],rfl⟩
 have I:∀{a:E} {u:ByteArray} {R:Ending->Mem->Prop},a∈e.k->qAq d (qAj d pr) a=(u,0)->R (.returned (.string u)) V->Tri Tryz.prog 273 #[pv p,pv q,a.v] V R:=fun hm ha hR=>(ih _ hm _ (hv.kids _ hm) (he.kids _ hm) ha).call hR
 cases kindX (sc:=qAj d pr) rfl hv ht with
 | int h hn =>
  repeat refine qAB (h ▸ (by decide)) ?_
  exact fin rfl
 | bool h hn =>
  repeat refine qAB (h ▸ (by decide)) ?_
  exact qAM h (fin rfl)
 | nil h hn =>
  repeat refine qAB (h ▸ (by decide)) ?_
  exact qAM h (fin rfl)
 | var h hl hne =>
  refine qAM h ⟨nn,nn,fa,qAd hq 0 1 (by simp),(c242 hra).call ⟨_,rfl,?_⟩⟩
  rcases qHX G hvs hpo.vars hl hne with⟨i,f,v,h1,h2,h3,h4,-⟩|⟨i,f,v,h0,h1,h2,h3,h4,-⟩
  ·rw[h1]
   have hn:=hra.n_eq
   have hil:=(List.getElem?_eq_some_iff.1 h2).1
   obtain⟨y,-,hy,-,-,hp,hz,hrow⟩:=hra.get (i:=i) (by omega)
   rw[h2]at hy;cases hy
   exact qAM (by omega) ⟨nn,nn,fa,qAd hq 0 1 (by simp),hp,hz,by omega,qAf hp,_,_,hrow,fin h4⟩
  ·rw[h0]
   have hg:=hd.globals
   have hn:=hg.n_eq
   have hil:=(List.getElem?_eq_some_iff.1 h2).1
   obtain⟨y,-,hy,-,-,hp,hz,hrow⟩:=hg.get (i:=i) (by omega)
   rw[h2]at hy;cases hy
   refine qAB (by decide) ⟨nn,nn,pnn,d.gs,qAd hat 2 1 (by simp[qBM]),nn,nn,pnn,d.gs,qAd hat 2 1 (by simp[qBM]),(c242 hg).call ⟨_,rfl,?_⟩⟩
   rw[h1]
   exact⟨qAN hat 2 0 1 (by simp[qBM]),pnn,nn,nn,hp,hz,by omega,qAf hp,_,_,hrow,fin h4⟩
 | @fld _ u a h hk ha hf =>
  have h0:e.k[0]?=some a:=by rw[hk];rfl
  obtain⟨k1,k2,k3,k4⟩:=qEA heV h0
  obtain⟨j,i,tt,f,e1,e2,e3,e4,e5,e6⟩:=fieldT_idx hf
  repeat refine qAB (h ▸ (by decide)) ?_
  refine qAM h ⟨nn,nn,pnn,d.ts,qAd hat 1 1 (by simp[qBM]),k1,by decide,k3,_,_,_,_,k4,I (List.mem_of_getElem? h0) ha ⟨_,rfl,qAN hat 1 0 1 (by simp[qBM]),pnn,nn,nn,(c270 S M).call ⟨_,rfl,qAN hat 1 0 1 (by simp[qBM]),pnn,nn,nn,?_⟩⟩⟩
  rw[e1]
  have hn:=hd.types.n_eq
  have hjl:=(List.getElem?_eq_some_iff.1 e2).1
  obtain⟨y,-,hy,-,-,hp,hz,hrow⟩:=hd.types.get (i:=j) (by omega)
  rw[e2]at hy;cases hy
  have hfs:=(hd.typesOk tt e3).fields
  have hn2:=hfs.n_eq
  have hil:=(List.getElem?_eq_some_iff.1 e5).1
  obtain⟨y,-,hy,-,-,hp2,hz2,hrow2⟩:=hfs.get (i:=i) (by omega)
  rw[e5]at hy;cases hy
  refine⟨hp,hz,by omega,_,_,hrow,(c242 hfs).call ⟨_,rfl,?_⟩⟩
  rw[e4]
  exact⟨hp2,hz2,by omega,qAf hp2,_,_,hrow2,fin e6⟩
 | new h hn =>
  grind
 | @call pr' i h hc hr =>
  repeat refine qAB (h ▸ (by decide)) ?_
  refine qAM h ⟨nn,nn,pnn,d.ps,qAd hat 3 1 (by simp[qBM]),nn,nn,d.name,d.ts,d.gs,d.ps,d.ms,d.is,d.qs,d.bs,qAd hat 0 8 (by simp[qBM]),(c160 hd).call ⟨_,rfl,qAN hat 3 0 1 (by simp[qBM]),pnn,nn,nn,?_⟩⟩
  rw[hc.idx]
  have hn:=hd.procs.n_eq
  have hil:=(List.getElem?_eq_some_iff.1 hc.at_).1
  obtain⟨y,-,hy,-,-,hp,hz,hrow⟩:=hd.procs.get (i:=i) (by omega)
  rw[hc.at_]at hy;cases hy
  exact⟨hp,hz,by omega,qAf hp,_,_,_,_,_,hrow,fin rfl⟩
 | @neg a h hk ha =>
  repeat refine qAB (h ▸ (by decide)) ?_
  exact fin rfl
 | @not a h hk ha =>
  repeat refine qAB (h ▸ (by decide)) ?_
  exact qAM h (fin rfl)
 | @log a h hk ha =>
  repeat refine qAB (h ▸ (by decide)) ?_
  exact fin rfl
 | @and a b h hk ha hb =>
  repeat refine qAB (h ▸ (by decide)) ?_
  exact qAM h (fin rfl)
 | @or a b h hk ha hb =>
  repeat refine qAB (h ▸ (by decide)) ?_
  exact qAM h (fin rfl)
 | @cond a b c _ u w h hk ha hb hc hu hw htt =>
  have h1:e.k[1]?=some b:=by rw[hk];rfl
  have h2:e.k[2]?=some c:=by rw[hk];rfl
  obtain⟨k1,k2,k3,k4⟩:=qEA heV h1
  obtain⟨l1,l2,l3,l4⟩:=qEA heV h2
  repeat refine qAB (h ▸ (by decide)) ?_
  refine qAM h ⟨k1,by decide,k3,_,_,_,_,k4,I (List.mem_of_getElem? h1) hb ⟨_,rfl,fun hE=>⟨l1,by decide,l3,_,_,_,_,l4,I (List.mem_of_getElem? h2) hc ⟨_,rfl,fin ?_⟩⟩,fun hE=>fin ?_⟩⟩
  ·grind [sNil]
  grind [sNil]
 | @eq a b u w h hk ha hb hf =>
  rcases h with h|h
  ·repeat refine qAB (h ▸ (by decide)) ?_
   exact qAM h (fin rfl)
  ·repeat refine qAB (h ▸ (by decide)) ?_
   exact qAM h (fin rfl)
 | @cmp a b h hk ha hb =>
  rcases h with h|h
  ·repeat refine qAB (h ▸ (by decide)) ?_
   exact qAM h (fin rfl)
  ·repeat refine qAB (h ▸ (by decide)) ?_
   exact qAM h (fin rfl)
 | @ari a b h hk ha hb =>
  rcases h with h|h|h|h|h|h|h
  all_goals
   repeat refine qAB (h ▸ (by decide)) ?_
   exact fin rfl
theorem lens12(h:qAE d=true):d.globals.length<=8/\∀t∈d.types,t.fields.length<=12:=by
 grind [qAE,qCR,tyB]
theorem lens_of_args(hp:∀p∈d.procs,qCY d p){i:Nat}(h:d.procs[i]?=some pr):pr.params.length<=6/\pr.locals.length<=12:=(hp pr (List.mem_of_getElem? h)).lens
theorem c243(M:EM V0 d p F V s c){k a f:Int}(hfit:s.lg.length+1<=2147483648):Tri Tryz.prog 243 #[pv p,.int .i64 k,.int .i64 a,.int .i64 f] V fun e V'=>e=.returned (.tuple #[])/\EM V0 d p F V' (s.note (k,a,f)) c:=by
 obtain⟨gs,ns,ls,nd,hat,L⟩:=M.ex
 refine x243 ?_
 unfold w243
 refine⟨nn,nn,ls,qAd hat 14 1 (by simp[qBM]),fun tb htb=>L.note (a:=(k,a,f)) htb rfl rfl hfit fun s' V' L' hk=>⟨s',rfl,nn,nn,?_⟩⟩
 have hat':=hk _ _ hat (notBlk hat ntE L.log (.inr (.inr rfl)))
 refine StT.at2 (off:=14) hat' (by simp[qBM]) ⟨rfl,MA.set (row':=qBM d F s.tk c s.cm) ntE M.p0 hat' L' rfl rfl rfl rfl⟩
theorem c240(hF:F<=4000)(M:EM V0 d p F V s c):Tri Tryz.prog 240 #[pv p] V fun e V'=>(s.tk<F/\e=.returned (.tuple #[])/\EM V0 d p F V' { s with tk:=s.tk+1 } c)∨(F<=s.tk/\e=fltE 20/\V'=V):=by
 obtain⟨gs,ns,ls,nd,hat,L⟩:=M.ex
 refine x240 ?_
 unfold w240
 refine⟨nn,nn,_,qAd hat 11 1 (by simp[qBM]),nn,nn,_,qAd hat 10 1 (by simp[qBM]),fun h=>qJi (.inr ⟨by omega,rfl,rfl⟩),fun h=>⟨nn,nn,_,qAd hat 11 1 (by simp[qBM]),⟨by omega,by omega⟩,nn,nn,StT.at2 (off:=11) hat (by simp[qBM]) (.inl ⟨by omega,rfl,?_⟩)⟩⟩
 exact MA.set (row':=qBM d F ((s.tk+1:Nat):Int) c s.cm) ntE M.p0 hat L rfl rfl rfl rfl
theorem c244(S:ES V0 d F)(M:EM V0 d p F V s c){k j:Nat}{fs:List Int}{tt:Ty}(hk:s.ns[k]?=some ((j:Int),fs))(hj:d.types[j]?=some tt){nm:ByteArray}:PP 244 [pv p,.int .i64 ((k:Int)+1),.string nm] V (.int .i64 (qGv tt.fields nm)):=by
 obtain⟨gs,ns,ls,nd,hat,L⟩:=M.ex
 refine x244 ?_
 unfold w244
 have hd:=S.ds.sub L.sub
 have hnR:=L.nodes.rows (fun _=>rfl) (by decide)
 have hnn:=hnR.n_eq
 obtain⟨sl,hsl⟩:=L.at_ hk
 have hkl:=(List.getElem?_eq_some_iff.1 hsl).1
 obtain⟨y,-,hy,-,-,hp,hz,hrow⟩:=hnR.get (i:=k) (by omega)
 rw[hsl]at hy;cases hy
 have hI:IR ((k:Int)):=⟨by omega,by have:=(hnR.succ (i:=k) (by omega)).2;omega⟩
 have hn:=hd.types.n_eq
 have hjl:=(List.getElem?_eq_some_iff.1 hj).1
 obtain⟨y,-,hy,-,-,hp2,hz2,hrow2⟩:=hd.types.get (i:=j) (by omega)
 rw[hj]at hy;cases hy
 refine⟨nn,nn,pnn,d.ts,qAd hat 1 1 (by simp[qBM]),nn,nn,pnn,ns,qAd hat 9 1 (by simp[qBM]),?_⟩
 rw[show ((k:Int)+1-1)=(k:Int) by omega]
 exact⟨hI,hp,hz,by omega,qAf hp,_,_,hrow,hp2,hz2,(show (j:Int)<d.ts.n by omega),qAf hp2,_,_,hrow2,(c242 (hd.typesOk tt (List.mem_of_getElem? hj)).fields).call ⟨_,rfl,rfl,rfl⟩⟩
end
section
variable{V0 V V1:Mem}{d:Ds}{p F c q:Nat}{s:St}{pr:Pr}{vals:List Int}
def BW(n:Nat)(s:St):Prop:=s.lg.length+s.cm+n<=4000*s.tk
theorem BW.next{n m:Nat}{s s':St}(h:BW (n+m) s)(g:Gr F n s s'):BW m s':=by have:=g.w;unfold BW at *;omega
theorem BW.le{n m:Nat}{s:St}(h:BW n s)(hn:m<=n):BW m s:=by unfold BW at *;omega
structure Cx (V0:Mem) (d:Ds) (p F c q:Nat) (pr:Pr) (vals:List Int) (n m:Nat) (V:Mem) (s:St):Prop where
 S:ES V0 d F
 fr:Fv V0 q pr vals
 po:qCY d pr
 G:qAx d s.mm
 hv:qAg d s.mm pr.vars vals=true
 M:EM V0 d p F V s c
 tk:s.tk<=F
 n:F<n+s.tk
 w:BW m s
theorem Cx.fit{n m:Nat}(X:Cx V0 d p F c q pr vals n (m+1) V s):s.lg.length+1<=2147483648:=by
 have h1:=X.w;have h2:=X.tk;have h3:=X.S.fuel;grind [BW]
theorem Cx.next{n m k:Nat}{V':Mem}{s':St}(X:Cx V0 d p F c q pr vals n (m+k) V s)(g:Gr F m s s')(G:qAx d s'.mm)(M:EM V0 d p F V' s' c):Cx V0 d p F c q pr vals n k V' s' :=
 ⟨X.S,X.fr,X.po,G,qAk (fun h=>g.right h) X.hv,M,g.fu X.tk,by have:=g.tk;have:=X.n;omega,X.w.next g⟩
theorem Cx.le{n m k:Nat}(X:Cx V0 d p F c q pr vals n m V s)(h:k<=m):Cx V0 d p F c q pr vals n k V s:=⟨X.S,X.fr,X.po,X.G,X.hv,X.M,X.tk,X.n,X.w.le h⟩
variable(d p F) in
def CallC(n:Nat):Prop:=∀(V0 V:Mem) (s:St) (c i:Nat) (pr:Pr) (args:List Int) (l:Sl),ES V0 d F->d.procs[i]?=some pr->qAx d s.mm->qAg d s.mm pr.params args=true->qAc V0 l 1 (args.map qAe)->EM V0 d p F V s c->s.tk<=F->F<n+s.tk->BW 0 s ->
 Tri Tryz.prog 116 #[pv p,pr.v,l.v] V (PX V0 d p F c (qEh d (qFQ d F n) c i args s))
variable(d p F) in
def ExprC(n:Nat):Prop:=∀(e:E) (t:ByteArray) (V0 V:Mem) (s:St) (c q:Nat) (pr:Pr) (vals:List Int),Cx V0 d p F c q pr vals n (szE e) V s->VE e->E.Ok V0 e->qAq d (qAj d pr) e=(t,0) ->
 Tri Tryz.prog 241 #[pv p,pv q,e.v] V (PX V0 d p F c (evX d (qEh d (qFQ d F n) c) pr vals e s))
theorem qKu{g n:Nat}(hg:V g=none)(hn:n<=2147483648):Sx.Own V (V.set g (.cells (madeCells (Value.int .i64 0).cells (n*1)) 3 (0,0))) 3 1 ⟨some ⟨g,0,none⟩,n,n⟩ ((List.replicate n (0:Int)).flatMap qAe):=by
 have e:(madeCells (Value.int .i64 0).cells (n*1)).toList=(List.replicate n (0:Int)).flatMap qAe:=by rw[Nat.mul_one,qKE,qBe,List.map_replicate]
 refine⟨Mem.sub_new hg _,by rw[qBe];simp,.inr ⟨g,_,rfl,hg,Mem.set_same _ _ _,Nat.le_refl _,by simp only[maxLen];omega,by rw[size_madeCells],?_⟩⟩
 grind [List.take_of_length_le,qBe]
theorem mk31{ty:Nat}{x y:Operand}{vals:Operand->Value}{n:Nat}(hx:vals x=.int .i64 n)(hy:vals y=.int .i64 n)(hn:n<=2147483648){q:Value->Mem->Prop}(hq:∀g,V g=none->q (.slice (sa g) n n) (V.set g (.cells (madeCells (Value.int .i64 0).cells (n*1)) 3 (0,0)))):GenK Tryz.prog (.makeSlice 31 x y) ty vals V q :=
 GenK.make (z:=.int .i64 0) (i:=ti 3) Tryz.underlying31 (by kernel_rfl) (by kernel_rfl) (by kernel_rfl) (of_decide_eq_true (by kernel_rfl)) hx hy hn hq
theorem RxP.got{α:Type}{n:Nat}{s s':St}{r:Rx α}{v:α}{Q:α->St->Prop}(h:RxP d F n s r Q)(e:r=.ok v s'):qAx d s'.mm/\Gr F n s s'/\Q v s':=by
 subst e;exact⟨h.good,h.gr,h.q _ _ rfl⟩
theorem callC{n:Nat}(hR:CallC d p F n){e:E}{pr':Pr}{i:Nat}(X:Cx V0 d p F c q pr vals n (szE e) V s)(he:E.Ok V0 e)(hc:CallK d (qAj d pr) e pr' i)(hv:VE e)
  (hE:∀a∈e.k,∀(u:ByteArray) (W V':Mem) (s':St),V0.sub W->Cx W d p F c q pr vals n (szE a) V' s'->qAq d (qAj d pr) a=(u,0)->Tri Tryz.prog 241 #[pv p,pv q,a.v] V' (PX W d p F c (evX d (qEh d (qFQ d F n) c) pr vals a s'))) :
  Tri Tryz.prog 245 #[pv p,pv q,e.v] V (PX V0 d p F c ((seqX (e.k.map (evX d (qEh d (qFQ d F n) c) pr vals)) [] s).bind fun l st=>qEh d (qFQ d F n) c (i:Int) l st)):=by
 obtain⟨f,hf⟩:∃f,f=evX d (qEh d (qFQ d F n) c) pr vals:=⟨_,rfl⟩
 obtain⟨G,hG⟩:∃G:Rx Int,G=(seqX (e.k.map f) [] s).bind fun l st=>qEh d (qFQ d F n) c (i:Int) l st:=⟨_,rfl⟩
 rw[<- hf,<- hG]
 have hcs:=qFb X.S.procs (qGC (F:=F) X.S.procs n) c
 have snd:∀{a:E} {u:ByteArray} {s1:St} {m:Nat},a∈e.k->qAq d (qAj d pr) a=(u,0)->qAx d s1.mm->Gr F m s s1->RxP d F (szE a) s1 (f a s1) fun v s'=>qBO d s'.mm u v:=fun hm ha G1 g1=>by
  rw[hf];exact ev_snd X.S.procs hcs X.po _ _ _ (hv.kids _ hm) ha G1 (qAk (fun h=>g1.right h) X.hv)
 have hkn:=qEq X.S.procs hc.at_
 have hsz:=szE_eq e
 refine Tri.mono (x245 (R:=PX V0 d p F c G) ?_) fun _ _ h=>h
 unfold w245
 refine qFi (mk:=fun s:Sl=>.slice s.p s.n s.c) (b0:=⟨none,0,0⟩) qBA e.k.length (fun j sl V1=>∃W acc s1,V0.sub W/\Sx.Own V0 W 3 1 sl (acc.flatMap qAe)/\EM W d p F V1 s1 c/\acc.length=j/\qAx d s1.mm/\Gr F ((e.k.take j).map szE).sum s s1/\qAg d s1.mm (pr'.params.take j) acc=true /\
   seqX (e.k.map f) [] s=seqX ((e.k.drop j).map f) acc s1) ⟨V0,[],s,Mem.sub.refl _,Own.nil (Mem.sub.refl _) _ _,X.M,rfl,X.G,by simpa using Gr.refl s,qAC.2 ⟨rfl,fun j f v h=>by simp at h⟩,rfl⟩ ?_
 rintro j sl V1 J hj ⟨W,acc,s1,hW,ho,M1,hacc,G1,g1,ha1,hseq⟩ hJ
 have heW:=(he.sub hW).sub M1.sub
 refine⟨fun hlt=>?_,fun hge=>?_⟩
 ·obtain⟨a,ham,ha,hdr,hjl,hp,hz,hrow⟩:=heW.rows.get hlt
  have hjp:j<pr'.params.length:=by rw[<- hc.len];exact hjl
  obtain⟨u,hu,hfit⟩:=hc.fit j a _ ha (List.getElem?_eq_getElem hjp)
  have hsum:((e.k.take (j+1)).map szE).sum=((e.k.take j).map szE).sum+szE a:=by grind
  have hall:((e.k.take (j+1)).map szE).sum<=(e.k.map szE).sum:=by
   have:=congrArg (fun l=>(l.map szE).sum) (List.take_append_drop (j+1) e.k)
   grind
  have X1:Cx W d p F c q pr vals n (szE a) V1 s1:=by
   have X':=X.le (k:=((e.k.take j).map szE).sum+szE a) (by omega)
   refine⟨X.S.sub hW,?_,X.po,G1,qAk (fun h=>g1.right h) X.hv,M1,g1.fu X.tk,by have:=g1.tk;have:=X.n;omega,X'.w.next g1⟩
   obtain⟨a',b',h1,h2,h3⟩:=X.fr.ex
   exact⟨a',b',hW _ _ h1,h2.sub hW,h3.sub hW⟩
  rw[hdr,List.map_cons]at hseq
  have hseq':seqX (e.k.map f) [] s=(f a s1).bind fun v st=>seqX ((e.k.drop (j+1)).map f) (acc++[v]) st:=hseq
  refine⟨hp,hz,hlt,_,_,_,_,hrow,?_⟩
  have H:=hE a ham u W V1 s1 hW X1 hu
  rw[<- hf]at H
  refine PX.split H (fun k s2 c' V2 e2 M2=>?_) fun v s2 V2 e2 M2=>fun tb htb=>?_
  ·rw[hG,hseq',e2]
   exact⟨rfl,c',M2.narrow hW⟩
  obtain⟨G2,g2,hv2⟩:=(snd ham hu G1 g1).got e2
  have hlen:acc.length<=2000:=by
   have hl:=lens_of_args X.S.procs hc.at_
   omega
  have ho2:Sx.Own V0 V2 3 1 sl (acc.flatMap qAe):=Own.moveB ho (hW.trans M2.sub) fun g cur _ hg=>M2.sub _ _ hg
  refine qFF (s:=sl) (u:=⟨some ⟨tb,0,none⟩,1,1⟩) (xs:=acc) (ys:=[v]) rfl rfl (ho2.but.new htb (.cells #[.int .i64 v] 3 (0,0))) (qKx mss) (by simp;omega) fun o3 V3 ho3=>⟨o3,rfl,heW.rows.succ hlt,?_⟩
  obtain⟨W',hW',M3,ho4⟩:=M2.beside hW ho ho3
  refine hJ hjl _ _ ⟨W',acc++[v],s2,hW',ho4,M3,by simp_all,G2,by rw[hsum];exact g1.trans g2,?_,by rw[hseq',e2];rfl⟩
  rw[List.take_add_one,List.getElem?_eq_getElem hjp]
  refine qEL (qAk (fun h=>g2.right h) ha1) (qAC.2 ⟨rfl,fun k f w hf hw=>?_⟩)
  cases k with
  | zero =>
   simp at hf hw;subst hf;subst hw
   exact(qBs X.S.valid (hkn _ (List.getElem_mem _))).1 (qCi X.S.valid hfit hv2)
  | succ k=>simp at hf
 ·have hdn:=(heW.rows.done hge).2
  rw[List.take_of_length_le hdn]at g1
  rw[List.take_of_length_le (by rw[<- hc.len];exact hdn)]at ha1
  rw[List.drop_eq_nil_of_le hdn]at hseq
  have hG1:G=qEh d (qFQ d F n) c (i:Int) acc s1:=by rw[hG,hseq];rfl
  obtain⟨gs,ns,ls,nd,hat,L⟩:=M1.ex
  have hd:=(X.S.sub hW).ds.sub L.sub
  refine⟨nn,nn,pnn,d.ps,qAd hat 3 1 (by simp[qBM]),nn,nn,d.name,d.ts,d.gs,d.ps,d.ms,d.is,d.qs,d.bs,qAd hat 0 8 (by simp[qBM]),(c160 hd).call ⟨_,rfl,qAN hat 3 0 1 (by simp[qBM]),pnn,nn,nn,?_⟩⟩
  rw[hc.idx]
  have hn:=hd.procs.n_eq
  have hil:=(List.getElem?_eq_some_iff.1 hc.at_).1
  obtain⟨y,-,hy,-,-,hp,hz,hrow⟩:=hd.procs.get (i:=i) (by omega)
  rw[hc.at_]at hy;cases hy
  have X':=X.le (k:=(e.k.map szE).sum+0) (by omega)
  refine⟨hp,hz,by omega,_,_,_,_,_,hrow,PX.split (hR W V1 s1 c i pr' acc sl (X.S.sub hW) hc.at_ G1 ha1 (ho.rows (fun _=>rfl) (by decide)) M1 (g1.fu X.tk) (by have:=g1.tk;have:=X.n;omega) (X'.w.next g1)) (fun k s2 c' V2 e2 M2=>?_) fun v s2 V2 e2 M2=>?_⟩
  ·rw[hG1,e2];exact⟨rfl,c',M2.narrow hW⟩
  ·rw[hG1,e2];exact⟨rfl,M2.narrow hW⟩
end
section
variable{V0 V V1:Mem}{d:Ds}{p F c q:Nat}{s:St}{pr:Pr}{vals:List Int}
theorem gAt{V:Mem}{gs:Sl}{l:List Int}(h:qAc V gs 1 (l.map qAe)){i:Nat}{v:Int}(hv:l[i]?=some v):¬gs.p=none/\(0:Int)<=(i:Int)/\(i:Int)<(gs.n:Int)/\V.rowp gs.p (i*1) 1=some [.int .i64 v]:=by
 have hn:=h.n_eq
 have hl:=(List.getElem?_eq_some_iff.1 hv).1
 obtain⟨y,-,hy,-,hl2,hp,hz,hrow⟩:=h.get (i:=i) (by omega)
 rw[hv]at hy;cases hy
 exact⟨hp,hz,by omega,hrow⟩
theorem nodeAt(M:EM V0 d p F V s c){k i:Nat}{ty v:Int}{fs:List Int}(hk:s.ns[k]?=some (ty,fs))(hv:fs[i]?=some v):∃gs ns ls nd sl,V p=some (.cells (qBM d F s.tk c s.cm gs ns ls).toArray 128 (0,0))/\Lay V0 V gs ns ls nd s/\nd[k]?=some ⟨ty,sl,fs⟩/\IR (k:Int) /\
  ¬ns.p=none/\(0:Int)<=(k:Int)/\(k:Int)<(ns.n:Int)/\V.rowp ns.p (k*2) 2=some [.int .i64 ty,.slice sl.p sl.n sl.c]/\¬sl.p=none/\(0:Int)<=(i:Int)/\(i:Int)<(sl.n:Int)/\V.rowp sl.p (i*1) 1=some [.int .i64 v]:=by
 obtain⟨gs,ns,ls,nd,hat,L⟩:=M.ex
 have hnR:=L.nodes.rows (fun _=>rfl) (by decide)
 have hnn:=hnR.n_eq
 obtain⟨sl,hsl⟩:=L.at_ hk
 have hkl:=(List.getElem?_eq_some_iff.1 hsl).1
 obtain⟨y,-,hy,-,-,hp,hz,hrow⟩:=hnR.get (i:=k) (by omega)
 rw[hsl]at hy;cases hy
 have hI:IR ((k:Int)):=⟨by omega,by have:=(hnR.succ (i:=k) (by omega)).2;omega⟩
 obtain⟨g1,g2,g3,g4⟩:=gAt ((L.fld _ (List.mem_of_getElem? hsl)).rows (fun _=>rfl) (by decide)) hv
 exact⟨gs,ns,ls,nd,sl,hat,L,hsl,hI,hp,hz,by omega,hrow,g1,g2,g3,g4⟩
theorem exprC{n:Nat}(hR:CallC d p F n):ExprC d p F n:=by
 intro e
 induction e using E.ind with
 | h e ih =>
 intro t V0 V s c q pr vals X hv he ht
 obtain⟨gs,ns,ls,nd,hat,L⟩:=X.M.ex
 obtain⟨fa,fb,hq0,hra0,hrb0⟩:=X.fr.ex
 have hq:=L.sub _ _ hq0
 have hd:=X.S.ds.sub L.sub
 have heV:=he.sub L.sub
 obtain⟨f,hf⟩:∃f,f=evX d (qEh d (qFQ d F n) c) pr vals:=⟨_,rfl⟩
 obtain⟨G,hG0⟩:∃G:Rx Int,G=qDq d (qEh d (qFQ d F n) c) pr vals (intB d (qAj d pr) e.k) e.op e.n e.s (e.k.map f) s:=⟨_,rfl⟩
 rw[evX_eq,<- hf,<- hG0]
 have hcs:=qFb X.S.procs (qGC (F:=F) X.S.procs n) c
 have hsz:=szE_eq e
 have K:∀{i:Nat} {a:E},e.k[i]?=some a->qFI (e.k.map f) i=f a:=fun h=>kidX_at h
 have kid:∀{i:Nat} {a:E} {u:ByteArray} {V1:Mem} {s1:St},e.k[i]?=some a->qAq d (qAj d pr) a=(u,0)->Cx V0 d p F c q pr vals n (szE a) V1 s1->Tri Tryz.prog 241 #[pv p,pv q,.agg #[.int .i64 a.op,.int .i64 a.n,.string a.s,.slice a.l.p a.l.n a.l.c]] V1 (PX V0 d p F c (f a s1)):=fun {i a u V1 s1} h0 ha X1=>by
  have hm:=List.mem_of_getElem? h0
  rw[hf]
  exact ih a hm u V0 V1 s1 c q pr vals X1 (hv.kids a hm) (he.kids a hm) ha
 have go:∀{i:Nat} {a:E} {u:ByteArray} {s1 s2:St} {V1 V2:Mem} {m k:Nat} {v:Int},e.k[i]?=some a->qAq d (qAj d pr) a=(u,0)->Cx V0 d p F c q pr vals n m V1 s1->szE a+k<=m->f a s1=.ok v s2->EM V0 d p F V2 s2 c->Cx V0 d p F c q pr vals n k V2 s2/\qBO d s2.mm u v:=fun {i a u s1 s2 V1 V2 m k v} h0 ha X1 hm e2 M2=>by
  have hmem:=List.mem_of_getElem? h0
  have P:=ev_snd X.S.procs hcs X.po a u s1 (hv.kids a hmem) ha X1.G X1.hv
  rw[hf]at e2
  obtain⟨G2,g2,q2⟩:=P.got e2
  exact⟨(X1.le hm).next g2 G2 M2,q2⟩
 have s1':∀{a:E},e.k=[a]->szE e=szE a+1:=fun h=>by rw[hsz,h];simp;omega
 have s2':∀{a b:E},e.k=[a,b]->szE e=szE a+szE b+1:=fun h=>by rw[hsz,h];simp;omega
 have s3':∀{a b c:E},e.k=[a,b,c]->szE e=szE a+szE b+szE c+1:=fun h=>by rw[hsz,h];simp;omega
 refine Tri.mono (x241 (R:=PX V0 d p F c G) ?_) fun _ _ h=>h
 have two:∀{a b:E} {u w':ByteArray},(9<=e.op/\e.op<=23/\e.op≠18/\e.op≠19/\e.op≠20/\e.op≠21)->e.k=[a,b]->qAq d (qAj d pr) a=(u,0)->qAq d (qAj d pr) b=(w',0)->(e.op≠14->e.op≠15->u=qAW/\w'=qAW) ->
   w241 (sa p) (sa q) e.op e.n e.s e.l V (PX V0 d p F c G):=by
  intro a b u w' h hk ha hb hint
  have h0:e.k[0]?=some a:=by rw[hk];rfl
  have h1:e.k[1]?=some b:=by rw[hk];rfl
  have hG:=hG0
  rw[cXTwo h,K h0,K h1]at hG
  obtain⟨k1,k2,k3,k4⟩:=qEA heV h0
  unfold w241
  have hs:=s2' hk
  refine qAB (by omega) (qAB (by omega) (qAB (by omega) (qAB (by omega) (qAB (by omega) (qAB (by omega) (qAB (by omega) (qAB (by omega) (qAB (by omega) (qAB (by omega) (qAB (by omega) (qAB (by omega) (qAB (by omega) ?_))))))))))))
  refine⟨k1,by decide,k3,_,_,_,_,k4,PX.bind hG (kid h0 ha (X.le (by omega))) fun v s1 V1 e1 M1 hG1=>?_⟩
  obtain⟨X1,hv1⟩:=go (k:=szE b+1) h0 ha X (by omega) e1 M1
  obtain⟨l1,l2,l3,l4⟩:=qEA (he.sub M1.sub) h1
  refine⟨l1,by decide,l3,_,_,_,_,l4,PX.bind hG1 (kid h1 hb (X1.le (by omega))) fun w s2 V2 e2 M2 hG2=>?_⟩
  obtain⟨X2,hv2⟩:=go (k:=1) h1 hb X1 (by omega) e2 M2
  have g2:=((ev_snd X.S.procs hcs X.po b w' s1 (hv.kids b (List.mem_of_getElem? h1)) hb X1.G X1.hv).got (by rw[hf]at e2;exact e2)).2.1
  have hv1:=g2.val hv1
  obtain⟨gs2,ns2,ls2,nd2,hat2,L2⟩:=M2.ex
  obtain⟨m1,m2,m3,m4⟩:=qEA (he.sub M2.sub) h0
  have hcm:s2.cm+1<=16000000:=by have h1:=X2.w;have h2:=X2.tk;have h3:=X2.S.fuel;unfold BW at h1;omega
  have hib:intB d (qAj d pr) e.k=decide (u=qAW):=by rw[hk];show decide ((qAq d (qAj d pr) a).1=qAW)=_;rw[ha]
  rw[hib]at hG2
  have ty:=typC (F:=F) X2.S M2 X2.fr X2.po X2.G X2.hv a u (hv.kids a (List.mem_of_getElem? h0)) (he.kids a (List.mem_of_getElem? h0)) ha
  have hM:EM V0 d p F (V2.set p (.cells (qBM d F s2.tk c ((s2.cm+1:Nat):Int) gs2 ns2 ls2).toArray 128 (0,0))) { s2 with cm:=s2.cm+1 } c:=MA.set (row':=qBM d F s2.tk c ((s2.cm+1:Nat):Int)) ntE M2.p0 hat2 L2 rfl rfl rfl rfl
  have yes:∀{x:Int},(e.op=16∨e.op=17∨((e.op=14∨e.op=15)/\u=qAW))->qFe e.op v w=.ok x->G=.ok x { s2 with cm:=s2.cm+1 }:=fun hc hx=>by
   rw[hG2,hx];unfold cntX;rw[if_pos (by simpa using hc)];rfl
  have no:∀{x:Int},¬(e.op=16∨e.op=17∨((e.op=14∨e.op=15)/\u=qAW))->qFe e.op v w=.ok x->G=.ok x s2:=fun hc hx=>by
   rw[hG2,hx];unfold cntX;rw[if_neg (by simpa using hc)];rfl
  have eqB:∀{x:Bool},(e.op=14∨e.op=15)->qFe e.op v w=.ok (trI x)->((decide (v=w))==(decide (e.op=14)))=x->_:=fun {x} ho hx hb=>by
   refine(⟨m1,by decide,m3,_,_,_,_,m4,ty.call ⟨_,rfl,fun hi=>⟨nn,nn,_,qAd hat2 13 1 (by simp[qBM]),⟨by omega,by omega⟩,nn,nn,StT.at2 (off:=13) hat2 (by simp[qBM]) ?_⟩,fun hi=>?_⟩⟩:¬e.l.p=none/\(0:Int)<=(0:Int)/\0<(e.l.n:Int)/\∃v16 v17 v18 v19,V2.rowp e.l.p ((0:Int).toNat*4) 4=some [uI v16,uI v17,uS v18,uL v19] /\
    TT 273 #[uP (sa p),uP (sa q),uA #[uI v16,uI v17,uS v18,uL v19]] V2 fun e' V3=>∃v20,e'=rV (uS v20) /\
    Br (v20=(qAm [105,110,116]))
    (¬(some (⟨p,0,none⟩:Addr))=none/\¬(some (⟨p,0,none⟩:Addr))=none/\∃v21,V3.rowp (sa p) ((13:Int).toNat*1) 1=some [uI v21] /\
    IR (v21+1)/\¬(some (⟨p,0,none⟩:Addr))=none/\¬(some (⟨p,0,none⟩:Addr))=none/\StT (qAa (sa p) 13) 0 [uI (v21+1)] V3 fun V4 =>
    TT 274 #[uB ((decide (v=w))==(decide (e.op=14)))] V4 fun e' V5=>∃v22,e'=rV (uI v22)/\PX V0 d p F c G (rV (uI v22)) V5)
    (TT 274 #[uB ((decide (v=w))==(decide (e.op=14)))] V3 fun e' V4=>∃v21,e'=rV (uI v21)/\PX V0 d p F c G (rV (uI v21)) V4))
   ·rw[hb]
    exact c274.call ⟨_,rfl,PX.ok (yes (.inr (.inr ⟨ho,hi⟩)) hx) hM⟩
   ·rw[hb]
    exact c274.call ⟨_,rfl,PX.ok (no (fun k=>k.elim (fun k=>by omega) fun k=>k.elim (fun k=>by omega) fun k=>hi k.2) hx) M2⟩
  have cmB:∀{x:Bool},(e.op=16∨e.op=17)->qFe e.op v w=.ok (trI x)->(¬(some (⟨p,0,none⟩:Addr))=none/\¬(some (⟨p,0,none⟩:Addr))=none/\∃v16,V2.rowp (sa p) ((13:Int).toNat*1) 1=some [uI v16] /\
    IR (v16+1)/\¬(some (⟨p,0,none⟩:Addr))=none/\¬(some (⟨p,0,none⟩:Addr))=none/\StT (qAa (sa p) 13) 0 [uI (v16+1)] V2 fun V3 =>
    TT 274 #[uB x] V3 fun e' V4=>∃v17,e'=rV (uI v17)/\PX V0 d p F c G (rV (uI v17)) V4):=fun {x} ho hx =>
   ⟨nn,nn,_,qAd hat2 13 1 (by simp[qBM]),⟨by omega,by omega⟩,nn,nn,StT.at2 (off:=13) hat2 (by simp[qBM]) (c274.call ⟨_,rfl,PX.ok (yes (by omega) hx) hM⟩)⟩
  refine⟨fun h14=>eqB (x:=decide (v=w)) (.inl h14) ?_ ?_,fun h14=>⟨fun h15=>eqB (x:=!decide (v=w)) (.inr h15) ?_ ?_,fun h15=>⟨fun h16=>cmB (.inl h16) ?_,fun h16=>⟨fun h17=>cmB (.inr h17) ?_,fun h17=>?_⟩⟩⟩⟩
  ·rw[show e.op=14 from h14];rfl
  ·rw[decide_eq_true (show e.op=14 from h14)];cases decide (v=w) <;> rfl
  ·rw[show e.op=15 from h15];rfl
  ·rw[decide_eq_false (show ¬e.op=14 from h14)];cases decide (v=w) <;> rfl
  ·rw[show e.op=16 from h16];rfl
  ·rw[show e.op=17 from h17];rfl
  ·have h14:¬e.op=14:=h14
   have h15:¬e.op=15:=h15
   have h16:¬e.op=16:=h16
   have h17:¬e.op=17:=h17
   obtain⟨rfl,rfl⟩:=hint h14 h15
   refine PB.last (s:=s2) ?_ M2 (c275 (by omega) (qBB.1 hv1) (qBB.1 hv2))
   rw[hG2];unfold cntX;rw[if_neg (by omega)]
 have hkind:=kindX (sc:=qAj d pr) rfl hv ht
 cases hkind with
 | int h hn =>
  unfold w241
  exact qAM h (PX.ok (hG0.trans (cX1 (.inl h))) X.M)
 | bool h hn =>
  unfold w241
  exact qAB (by omega) (qAM h (PX.ok (hG0.trans (cX1 (.inr h))) X.M))
 | nil h hn =>
  unfold w241
  repeat refine qAB (h ▸ (by decide)) ?_
  exact qAM h (PX.ok (hG0.trans (cX3 h)) X.M)
 | var h hl hne =>
  unfold w241
  have hG:=hG0.trans (cX4 h)
  have hra:=hra0.sub L.sub
  repeat refine qAB (h ▸ (by decide)) ?_
  refine qAM h ⟨nn,nn,fa,qAd hq 0 1 (by simp),(c242 hra).call ⟨_,rfl,?_⟩⟩
  have hvg:=(qAh X.G.mem).2.2.2.1
  rcases qHX X.G X.hv X.po.vars hl hne with⟨i,g,v,h1,h2,h3,h4,-,h6⟩|⟨i,g,v,h0,h1,h2,h3,h4,-,h6⟩
  ·rw[h1]
   obtain⟨g1,g2,g3,g4⟩:=gAt (hrb0.sub L.sub) h3
   exact qAM (by omega) ⟨nn,nn,fb,qAd hq 1 1 (by simp),g1,g2,g3,_,g4,PX.ok (hG.trans h6) X.M⟩
  ·rw[h0]
   have X1:=X.le (k:=1) (by omega)
   refine qAB (by decide) ⟨nn,nn,pnn,d.gs,qAd hat 2 1 (by simp[qBM]),(c242 hd.globals).call ⟨_,rfl,?_⟩⟩
   rw[h1]
   refine Tri.mono (c243 X.M (Cx.fit (m:=0) X1)) ?_
   rintro _ V3 ⟨rfl,M3⟩
   obtain⟨gs3,ns3,ls3,nd3,hat3,L3⟩:=M3.ex
   obtain⟨g1,g2,g3,g4⟩:=gAt (L3.glob.rows (fun _=>rfl) (by decide)) (i:=i) (v:=v) h3
   exact⟨rfl,nn,nn,pnn,gs3,qAd hat3 8 1 (by simp[qBM]),g1,g2,g3,_,g4,PX.ok (hG.trans h6) M3⟩
 | @fld _ u a h hk ha hf' =>
  unfold w241
  have h0:e.k[0]?=some a:=by rw[hk];rfl
  have hG:=hG0
  rw[cX5 h,K h0]at hG
  obtain⟨k1,k2,k3,k4⟩:=qEA heV h0
  have hs:=s1' hk
  repeat refine qAB (h ▸ (by decide)) ?_
  refine qAM h ⟨k1,by decide,k3,_,_,_,_,k4,PX.bind hG (kid h0 ha (X.le (by omega))) fun v s1 V1 e1 M1 hG1=>?_⟩
  obtain⟨X1,hv1⟩:=go (k:=1) h0 ha X (by omega) e1 M1
  refine⟨fun hz=>qJi (PX.bad ?_ M1),fun hz=>?_⟩
  ·rw[hG1];unfold fldX;rw[if_pos (show v=0 from hz)]
  have hz:¬v=0:=hz
  obtain⟨k,i,j,tt,g,fs,w,rfl,e2,e3,e4,e5,e6,e7,e8,e9,-⟩:=qHJ X1.G hf' hv1 hz
  refine(c244 X.S M1 e2 e3).call ⟨_,rfl,?_⟩
  rw[e6]
  refine Tri.mono (c243 M1 (Cx.fit (m:=0) X1)) ?_
  rintro _ V3 ⟨rfl,M3⟩
  obtain⟨gs3,ns3,ls3,nd3,sl3,hat3,L3,-,hI,n1,n2,n3,n4,m1,m2,m3,m4⟩:=nodeAt M3 (k:=k) (i:=i) e2 e8
  rw[show ((k:Int)+1-1)=(k:Int) by omega]
  refine⟨rfl,nn,nn,pnn,ns3,qAd hat3 9 1 (by simp[qBM]),hI,n1,n2,n3,qAf n1,_,_,n4,m1,m2,m3,_,m4,PX.ok ?_ M3⟩
  rw[hG1]
  unfold fldX
  rw[if_neg hz,show ((k:Int)+1-1).toNat=k by omega,e2]
  simp only
  rw[e5,e6,Int.toNat_natCast,e8];rfl
 | new h hn =>
  unfold w241
  have hG:=hG0.trans (cX6 h)
  repeat refine qAB (h ▸ (by decide)) ?_
  have hnn:=(L.nodes.rows (fun _=>rfl) (by decide)).n_eq
  have hlen:=L.len
  refine qAM h ⟨nn,nn,pnn,ns,qAd hat 9 1 (by simp[qBM]),fun hl=>qJi (PX.bad ?_ X.M),fun hl=>?_⟩
  ·have hl:4096<=(ns.n:Int):=hl
   rw[hG];unfold newX;rw[if_pos (by omega)]
  have hl:¬4096<=(ns.n:Int):=hl
  obtain⟨tt,htm,hte⟩:=List.any_eq_true.1 hn
  have hte:tt.name=e.s:=of_decide_eq_true hte
  obtain⟨j,hj⟩:=List.mem_iff_getElem?.1 htm
  have hidx:qDp d e.s=(j:Int):=hte ▸ (qBE (qAh X.G.mem).1).2.1 j tt hj
  have hfo:qAo d (j:Int)=tt.fields:=qAO hj rfl
  refine(c270 X.S X.M).call ⟨_,rfl,?_⟩
  rw[hidx]
  have htn:=hd.types.n_eq
  have hjl:=(List.getElem?_eq_some_iff.1 hj).1
  obtain⟨y,-,hy,-,-,hp,hz,hrow⟩:=hd.types.get (i:=j) (by omega)
  rw[hj]at hy;cases hy
  have hfn:=(hd.typesOk tt htm).fields.n_eq
  have hfl:=(lens12 X.S.valid).2 tt htm
  refine⟨nn,nn,pnn,ns,qAd hat 9 1 (by simp[qBM]),nn,nn,pnn,d.ts,qAd hat 1 1 (by simp[qBM]),hp,hz,by omega,qAf hp,_,_,hrow,mk31 (n:=tt.fs.n) rfl rfl (by omega) fun g hg=>⟨⟨some ⟨g,0,none⟩,tt.fs.n,tt.fs.n⟩,rfl,?_⟩⟩
  obtain⟨V2,hV2⟩:∃V2,V2=V.set g (.cells (madeCells (Value.int .i64 0).cells (tt.fs.n*1)) 3 (0,0)):=⟨_,rfl⟩
  have hown:=qKu hg (n:=tt.fs.n) (by omega)
  rw[<- hV2]at hown ⊢
  have hat2:=hown.sub _ _ hat
  refine⟨qAN hat2 9 0 1 (by simp[qBM]),pnn,nn,nn,qAN hat2 9 0 1 (by simp[qBM]),pnn,nn,nn,fun tb htb=>?_⟩
  refine L.new (n:=⟨(j:Int),⟨some ⟨g,0,none⟩,tt.fs.n,tt.fs.n⟩,List.replicate tt.fs.n 0⟩) hown htb rfl rfl (by omega) fun s3 V3 L3 hk3=>⟨s3,rfl,nn,nn,pnn,?_⟩
  have hat3:=hk3 _ _ hat2 (notBlk hat ntE L.nodes (.inr (.inl rfl)))
  refine StT.at2 (off:=9) hat3 (by simp[qBM]) ?_
  have M4:EM V0 d p F (V3.set p (.cells (qBM d F s.tk c s.cm gs s3 ls).toArray 128 (0,0))) { s with ns:=s.ns++[((j:Int),List.replicate tt.fs.n 0)] } c :=
   ⟨X.M.p0,gs,s3,ls,nd++[_],Mem.set_same _ _ _,L3.put (qHT hat3 ntE) X.M.p0 _⟩
  have hn3:=(L3.nodes.rows (fun _=>rfl) (by decide)).n_eq
  rw[List.length_append,List.length_singleton]at hn3
  show ¬(some (⟨p,0,none⟩:Addr):Option Addr)=none/\_
  refine⟨nn,nn,pnn,s3,qAd mss 9 1 (by simp[qBM]),?_⟩
  rw[show ((s3.n:Nat):Int)=(s.ns.length:Int)+1 by omega]
  have hfit:s.lg.length+1<=2147483648:=Cx.fit (m:=0) (X.le (k:=0+1) (by omega))
  refine Tri.mono (c243 M4 hfit) ?_
  rintro _ V7 ⟨rfl,M7⟩
  obtain⟨gs7,ns7,ls7,nd7,hat7,L7⟩:=M7.ex
  have hn7:=(L7.nodes.rows (fun _=>rfl) (by decide)).n_eq
  have hl7:=L7.len
  have hl7:nd7.length=(s.ns++[((j:Int),List.replicate tt.fs.n 0)]).length:=hl7
  rw[List.length_append,List.length_singleton]at hl7
  refine⟨rfl,nn,nn,pnn,ns7,qAd hat7 9 1 (by simp[qBM]),?_⟩
  rw[show ((ns7.n:Nat):Int)=(s.ns.length:Int)+1 by omega]
  refine PX.ok ?_ M7
  rw[hG];unfold newX
  rw[if_neg (by omega),hidx,hfo,<- hfn];rfl
 | @call pr' i h hc hr =>
  unfold w241
  have hG:=hG0.trans (cX7 h)
  rw[hc.idx]at hG
  repeat refine qAB (h ▸ (by decide)) ?_
  refine qAM h (PX.last hG ?_)
  rw[hf]
  refine callC hR X he hc hv fun a hm u W V' s' hW X' ha=>?_
  exact ih a hm u W V' s' c q pr vals X' (hv.kids a hm) ((he.kids a hm).sub hW) ha
 | @neg a h hk ha =>
  unfold w241
  have h0:e.k[0]?=some a:=by rw[hk];rfl
  have hG:=hG0
  rw[cX8 h,K h0]at hG
  obtain⟨k1,k2,k3,k4⟩:=qEA heV h0
  have hs:=s1' hk
  repeat refine qAB (h ▸ (by decide)) ?_
  refine qAM h ⟨k1,by decide,k3,_,_,_,_,k4,PX.bind hG (kid h0 ha (X.le (by omega))) fun v s1 V1 e1 M1 hG1=>?_⟩
  obtain⟨X1,hv1⟩:=go (k:=1) h0 ha X (by omega) e1 M1
  have:=qBB.1 hv1
  rw[<- Int.zero_sub]at hG1
  exact⟨⟨by omega,by omega⟩,PB.last hG1 M1 c271⟩
 | @not a h hk ha =>
  unfold w241
  have h0:e.k[0]?=some a:=by rw[hk];rfl
  have hG:=hG0
  rw[cX18 h,K h0]at hG
  obtain⟨k1,k2,k3,k4⟩:=qEA heV h0
  have hs:=s1' hk
  repeat refine qAB (h ▸ (by decide)) ?_
  refine qAM h ⟨k1,by decide,k3,_,_,_,_,k4,PX.bind hG (kid h0 ha (X.le (by omega))) fun v s1 V1 e1 M1 hG1=>?_⟩
  obtain⟨X1,hv1⟩:=go (k:=1) h0 ha X (by omega) e1 M1
  have:=qBb.1 hv1
  exact⟨⟨by omega,by omega⟩,PX.ok hG1 M1⟩
 | @log a h hk ha =>
  unfold w241
  have h0:e.k[0]?=some a:=by rw[hk];rfl
  have hG:=hG0
  rw[cX24 h,K h0]at hG
  obtain⟨k1,k2,k3,k4⟩:=qEA heV h0
  have hs:=s1' hk
  repeat refine qAB (h ▸ (by decide)) ?_
  refine qAM h ⟨k1,by decide,k3,_,_,_,_,k4,PX.bind hG (kid h0 ha (X.le (by omega))) fun v s1 V1 e1 M1 hG1=>?_⟩
  obtain⟨X1,hv1⟩:=go (k:=1) h0 ha X (by omega) e1 M1
  have hr:=qBB.1 hv1
  refine GenK.max2 rfl rfl ⟨_,rfl,?_⟩
  obtain⟨w,hw⟩:∃w:Nat,(if (1:Int)<v then v else 1)=(w:Int):=⟨(if (1:Int)<v then v else 1).toNat,by split <;> omega⟩
  rw[hw]
  have hw1:1<=w/\(w:Int)<=1099511627776:=by split at hw <;> omega
  have hb:Nat.log2 w<64:=(Nat.log2_lt (by omega)).2 (by omega)
  have hlen:lenN w=(Nat.log2 w:Int)+1:=by unfold lenN;rw[if_neg (by omega)]
  refine⟨inU _ (by omega),(c272 (by omega)).call ⟨_,rfl,?_⟩⟩
  rw[hlen]
  refine⟨⟨by omega,by omega⟩,PX.ok ?_ M1⟩
  rw[hG1]
  have:logV v=(Nat.log2 w:Int):=by
   unfold logV
   by_cases hv1:1<v
   ·rw[if_pos hv1]at hw;rw[hw,Int.toNat_natCast]
   ·rw[if_neg hv1]at hw
    have:w=1:=by omega
    subst this
    have:v.toNat=0∨v.toNat=1:=by omega
    rcases this with h|h <;> rw[h] <;> rfl
  rw[this,show (Nat.log2 w:Int)+1-1=(Nat.log2 w:Int) by omega]
 | @and a b h hk ha hb =>
  unfold w241
  have h0:e.k[0]?=some a:=by rw[hk];rfl
  have h1:e.k[1]?=some b:=by rw[hk];rfl
  have hG:=hG0
  rw[cX19 h,K h0,K h1]at hG
  obtain⟨k1,k2,k3,k4⟩:=qEA heV h0
  have hs:=s2' hk
  repeat refine qAB (h ▸ (by decide)) ?_
  refine qAM h ⟨k1,by decide,k3,_,_,_,_,k4,PX.bind hG (kid h0 ha (X.le (by omega))) fun v s1 V1 e1 M1 hG1=>?_⟩
  obtain⟨X1,hv1⟩:=go (k:=szE b) h0 ha X (by omega) e1 M1
  obtain⟨l1,l2,l3,l4⟩:=qEA (he.sub M1.sub) h1
  refine⟨fun hz=>PX.ok ?_ M1,fun hz=>⟨l1,by decide,l3,_,_,_,_,l4,PX.last ?_ (kid h1 hb X1)⟩⟩
  ·rw[hG1,if_pos (show v=0 from hz)]
  ·rw[hG1,if_neg (show ¬v=0 from hz)]
 | @or a b h hk ha hb =>
  unfold w241
  have h0:e.k[0]?=some a:=by rw[hk];rfl
  have h1:e.k[1]?=some b:=by rw[hk];rfl
  have hG:=hG0
  rw[cX20 h,K h0,K h1]at hG
  obtain⟨k1,k2,k3,k4⟩:=qEA heV h0
  have hs:=s2' hk
  repeat refine qAB (h ▸ (by decide)) ?_
  refine qAM h ⟨k1,by decide,k3,_,_,_,_,k4,PX.bind hG (kid h0 ha (X.le (by omega))) fun v s1 V1 e1 M1 hG1=>?_⟩
  obtain⟨X1,hv1⟩:=go (k:=szE b) h0 ha X (by omega) e1 M1
  obtain⟨l1,l2,l3,l4⟩:=qEA (he.sub M1.sub) h1
  have hv1:=qBb.1 hv1
  refine⟨fun hz=>PX.ok ?_ M1,fun hz=>⟨l1,by decide,l3,_,_,_,_,l4,PX.last ?_ (kid h1 hb X1)⟩⟩
  ·have hz:v=1:=hz
   rw[hG1,if_neg (by omega)]
  ·have hz:¬v=1:=hz
   rw[hG1,if_pos (by omega)]
 | @cond a b c' _ u w h hk ha hb hc hu hw _ =>
  unfold w241
  have h0:e.k[0]?=some a:=by rw[hk];rfl
  have h1:e.k[1]?=some b:=by rw[hk];rfl
  have h2:e.k[2]?=some c':=by rw[hk];rfl
  have hG:=hG0
  rw[cX21 h,K h0,K h1,K h2]at hG
  obtain⟨k1,k2,k3,k4⟩:=qEA heV h0
  have hs:=s3' hk
  repeat refine qAB (h ▸ (by decide)) ?_
  refine qAM h ⟨k1,by decide,k3,_,_,_,_,k4,PX.bind hG (kid h0 ha (X.le (by omega))) fun v s1 V1 e1 M1 hG1=>?_⟩
  obtain⟨X1,hv1⟩:=go (k:=szE b+szE c') h0 ha X (by omega) e1 M1
  obtain⟨l1,l2,l3,l4⟩:=qEA (he.sub M1.sub) h1
  obtain⟨m1,m2,m3,m4⟩:=qEA (he.sub M1.sub) h2
  have hv1:=qBb.1 hv1
  refine⟨fun hz=>⟨l1,by decide,l3,_,_,_,_,l4,PX.last ?_ (kid h1 hb (X1.le (by omega)))⟩,fun hz=>⟨m1,by decide,m3,_,_,_,_,m4,PX.last ?_ (kid h2 hc (X1.le (by omega)))⟩⟩
  ·have hz:v=1:=hz
   rw[hG1,if_neg (by omega)]
  ·have hz:¬v=1:=hz
   rw[hG1,if_pos (by omega)]
 | @eq a b u w h hk ha hb hf'=>exact two (by omega) hk ha hb fun _ _=>by omega
 | @cmp a b h hk ha hb=>exact two (by omega) hk ha hb fun _ _=>⟨rfl,rfl⟩
 | @ari a b h hk ha hb=>exact two (by omega) hk ha hb fun _ _=>⟨rfl,rfl⟩
end
section
variable{W V0 V V1 V':Mem}{d:Ds}{p F c q:Nat}{s:St}{pr:Pr}{vals:List Int}
theorem MA.poke{ty:Nat}{row:Sl->Sl->Sl->List Value}(h:MA ty V0 p row V s){b:Nat}(hb:V0 b≠none)(o:Obj):MA ty (V0.set b o) p row (V.set b o) s:=by
 obtain⟨gs,ns,ls,nd,hat,L⟩:=h.ex
 have hne:p≠b:=fun e=>hb (e ▸ h.p0)
 exact⟨by rw[Mem.set_ne hne];exact h.p0,gs,ns,ls,nd,by grind [Mem.set_ne],L.poke hb o⟩
structure FrM (W V0:Mem) (q:Nat) (pr:Pr) (vals:List Int):Prop where
 sub:W.sub V0
 ex:∃a b:Sl,W q=some (.cells #[a.v,b.v] 243 (0,0))/\qAc W a 2 (pr.vars.map Fld.row)/\Sx.Own W V0 3 1 b (vals.flatMap qAe)
theorem FrM.fv(h:FrM W V0 q pr vals):Fv V0 q pr vals:=by
 obtain⟨a,b,h1,h2,h3⟩:=h.ex
 exact⟨a,b,h.sub _ _ h1,h2.sub h.sub,h3.rows (fun _=>rfl) (by decide)⟩
theorem frStore{b:Sl}(own:Sx.Own W V0 3 1 b (vals.flatMap qAe))(M:EM V0 d p F V s c){i:Nat}(hi:i<vals.length){v:Int}{Q:Mem->Prop}
  (hQ:∀V0' V',Sx.Own W V0' 3 1 b ((vals.set i v).flatMap qAe)->EM V0' d p F V' s c->Q V'):StT (qAa b.p (i*1)) 0 [.int .i64 v] V Q:=by
 rw[Nat.mul_one]
 rcases own.cases0 with⟨h1,h2,h3⟩|⟨hc,g,cur,h1,h2,h3,h4,h5,h6,h7⟩
 ·rw[qBe]at h3
  have:vals=[]:=by simpa using h3
  rw[this]at hi;simp at hi
 have hle:b.n*1<=b.c*1:=Nat.mul_le_mul_right _ h4
 have hn:=own.len
 rw[qBe,List.length_map]at hn
 have hg0:V0 g≠none:=by rw[h3];simp
 rw[h1]
 have e:(cur.toList.take i++[Value.int .i64 v]++cur.toList.drop (i+1))=cur.toList.set i (.int .i64 v):=qDU _ _ _ (by simp;omega)
 refine StT.at2 (off:=i) (M.sub _ _ h3) (by simp;omega) (hQ (V0.set g _) _ ⟨own.sub.set h2 _,?_,.inr ⟨g,_,h1,h2,Mem.set_same _ _ _,h4,h5,?_,?_⟩⟩ (M.poke hg0 _))
 ·rw[qBe,List.length_map,List.length_set];exact hn
 ·simp_all
 ·rw[show i+[Value.int .i64 v].length=i+1 from rfl,e]
  show (cur.toList.set i (.int .i64 v)).take (b.n*1)=_
  rw[List.take_set,h7,qBe,qBe,List.map_set]
def PS(W:Mem)(d:Ds)(p F c q:Nat)(pr:Pr)(r:Rx Rt):Ending->Mem->Prop:=fun e V'=>match r with
 | .ok rt s=>e=.returned (.agg #[.bool rt.2.isSome,.int .i64 (rt.2.getD 0)])/\∃V0',FrM W V0' q pr rt.1/\EM V0' d p F V' s c
 | .bad k s=>e=fltE k/\∃c',EM W d p F V' s c'
theorem PS.bind{f:FuncId}{args:Array Value}{r:Rx Int}{G:Rx Rt}{h:Int->St->Rx Rt}{K:Int->Mem->Prop}(hW:W.sub V0)(hG:G=r.bind h)(H:Tri Tryz.prog f args V (PX V0 d p F c r))(ho:∀v s V',r=.ok v s->EM V0 d p F V' s c->G=h v s->K v V') :
  Tri Tryz.prog f args V fun e V'=>(∃v,e=.returned (.int .i64 v)/\K v V')∨∃ch,e=.panicked ch/\PS W d p F c q pr G e V' :=
 PX.split H (fun k s c' V' e hm=>by subst e;rw[hG];exact⟨rfl,c',hm.narrow hW⟩) fun v s V' e hm=>ho v s V' e hm (by rw[hG,e];rfl)
theorem PS.ok{G:Rx Rt}{rt:Rt}(hG:G=.ok rt s)(hf:FrM W V0 q pr rt.1)(M:EM V0 d p F V s c){b:Bool}{v:Int}(hb:b=rt.2.isSome)(hv:v=rt.2.getD 0):PS W d p F c q pr G (.returned (.agg #[.bool b,.int .i64 v])) V:=by
 rw[hG,hb,hv];exact⟨rfl,V0,hf,M⟩
theorem PS.bad{G:Rx Rt}{k:Int}(hG:G=.bad k s)(hW:W.sub V0)(M:EM V0 d p F V s c):PS W d p F c q pr G (fltE k) V:=by rw[hG];exact⟨rfl,c,M.narrow hW⟩
theorem PS.split{f:FuncId}{args:Array Value}{r:Rx Rt}{K:Bool->Int->Mem->Prop}{R:Ending->Mem->Prop}(H:Tri Tryz.prog f args V (PS W d p F c q pr r))(hb:∀k s c' V',r=.bad k s->EM W d p F V' s c'->R (fltE k) V')(ho:∀rt s V0' V',r=.ok rt s->FrM W V0' q pr rt.1->EM V0' d p F V' s c->K rt.2.isSome (rt.2.getD 0) V') :
  Tri Tryz.prog f args V fun e V'=>(∃b v,e=.returned (.agg #[.bool b,.int .i64 v])/\K b v V')∨∃ch,e=.panicked ch/\R e V' :=
 Tri.mono H fun e V' h=>by
  cases r with
  | ok rt s=>obtain⟨h1,V0',h2,h3⟩:=h;grind
  | bad k s =>
   obtain⟨he,c',hm⟩:=h
   subst he
   exact .inr ⟨_,rfl,hb k s c' V' rfl hm⟩
structure Sx1 (W V0:Mem) (d:Ds) (p F c q:Nat) (pr:Pr) (vals:List Int) (n m:Nat) (V:Mem) (s:St):Prop where
 S:ES W d F
 fr:FrM W V0 q pr vals
 po:qCY d pr
 G:qAx d s.mm
 hv:qAg d s.mm pr.vars vals=true
 M:EM V0 d p F V s c
 tk:s.tk<=F
 n:F<n+s.tk
 w:BW m s
theorem Sx1.cx{n m:Nat}(X:Sx1 W V0 d p F c q pr vals n m V s):Cx V0 d p F c q pr vals n m V s:=⟨X.S.sub X.fr.sub,X.fr.fv,X.po,X.G,X.hv,X.M,X.tk,X.n,X.w⟩
theorem Sx1.next{n m k:Nat}{V0':Mem}{vals':List Int}{s':St}(X:Sx1 W V0 d p F c q pr vals n (m+k) V s)(g:Gr F m s s')(G:qAx d s'.mm)(hf:FrM W V0' q pr vals')(hv:qAg d s'.mm pr.vars vals'=true)(M:EM V0' d p F V' s' c):Sx1 W V0' d p F c q pr vals' n k V' s' :=
 ⟨X.S,hf,X.po,G,hv,M,g.fu X.tk,by have:=g.tk;have:=X.n;omega,X.w.next g⟩
theorem Sx1.le{n m k:Nat}(X:Sx1 W V0 d p F c q pr vals n m V s)(h:k<=m):Sx1 W V0 d p F c q pr vals n k V s:=⟨X.S,X.fr,X.po,X.G,X.hv,X.M,X.tk,X.n,X.w.le h⟩
variable(d p F) in
def SC(n:Nat):Prop:=∀(l:List S) (W V0 V:Mem) (s:St) (c q:Nat) (pr:Pr) (vals:List Int) (sl:Sl),Sx1 W V0 d p F c q pr vals n 0 V s->(∀x∈l,TyS d pr x)->(∀x∈l,S.Ok W x)->qAc W sl 5 (l.map S.row) ->
 Tri Tryz.prog 164 #[pv p,pv q,sl.v] V (PS W d p F c q pr (qFQ d F n c pr l vals s))
variable(d p F) in
def StC(n:Nat):Prop:=∀(x:S) (W V0 V:Mem) (s:St) (c q:Nat) (pr:Pr) (vals:List Int),Sx1 W V0 d p F c q pr vals (n+1) 0 V s->TyS d pr x->S.Ok W x ->
 Tri Tryz.prog 199 #[pv p,pv q,x.v] V (PS W d p F c q pr (stX d F (qFQ d F n) c pr (n+1) x vals s))
theorem stsC{n:Nat}(H:StC d p F n):SC d p F (n+1):=by
 intro l W V0 V s c q pr vals sl X hty hok hrows
 obtain⟨f,hf⟩:∃f,f=stX d F (qFQ d F n) c pr (n+1):=⟨_,rfl⟩
 obtain⟨G,hG⟩:∃G:Rx Rt,G=qGP f l vals s:=⟨_,rfl⟩
 show Tri _ _ _ _ (PS W d p F c q pr (qGP (stX d F (qFQ d F n) c pr (n+1)) l vals s))
 rw[<- hf,<- hG]
 refine Tri.mono (x164 (R:=PS W d p F c q pr G) ?_) fun _ _ h=>h
 unfold w164
 refine qJg l.length (fun i V1=>∃V0' vals' s',Sx1 W V0' d p F c q pr vals' (n+1) 0 V1 s'/\G=qGP f (l.drop i) vals' s') ⟨V0,vals,s,X,hG⟩ ?_
 rintro i V1 J hi ⟨V0',vals',s',X',hG'⟩ hJ
 have hr:=hrows.sub (X'.fr.sub.trans X'.M.sub)
 refine⟨fun hlt=>?_,fun hge=>?_⟩
 ·obtain⟨x,hxm,hx,hdr,hil,hp,hz,hrow⟩:=hr.get hlt
  rw[S.row_eq]at hrow
  rw[hdr]at hG'
  have hG2:G=(f x vals' s').bind fun r st=>match r.2 with|some _=>.ok r st|none=>qGP f (l.drop (i+1)) r.1 st:=hG'
  have P:=st_snd (F:=F) (c:=c) (n:=n+1) X'.S.procs (qGC X'.S.procs n) X'.po (hty x hxm) X'.G X'.hv
  have Hx:=H x W V0' V1 s' c q pr vals' X' (hty x hxm) (hok x hxm)
  rw[<- hf]at Hx P
  rw[show x.v=.agg #[.int .i64 x.op,.string x.s,.slice x.el.p x.el.n x.el.c,.slice x.ll.p x.ll.n x.ll.c,.slice x.xl.p x.xl.n x.xl.c] by unfold S.v;rw[S.row_eq];rfl]at Hx
  refine⟨hp,hz,hlt,_,_,_,_,_,hrow,PS.split Hx (fun k s2 c' V2 e2 M2=>?_) fun rt s2 V0'' V2 e2 hf2 M2=>?_⟩
  ·rw[hG2,e2];exact⟨rfl,c',M2⟩
  obtain⟨G2,g2,q2⟩:=P.got e2
  rw[e2]at hG2
  cases hrt:rt.2 with
  | some v =>
   have hG3:G=.ok rt s2:=by rw[hG2];show (match rt.2 with|some _=>_|none=>_)=_;rw[hrt]
   exact⟨fun _=>PS.ok hG3 hf2 M2 (by rw[hrt]) (by rw[hrt]),fun h=>absurd rfl h⟩
  | none =>
   have hG3:G=qGP f (l.drop (i+1)) rt.1 s2:=by rw[hG2];show (match rt.2 with|some _=>_|none=>_)=_;rw[hrt]
   exact⟨(fun h=>by cases h),fun _=>⟨hr.succ hlt,hJ hil _ ⟨V0'',rt.1,s2,X'.next (m:=0) g2 G2 hf2 q2.1 M2,hG3⟩⟩⟩
 ·rw[(hr.done hge).1]at hG'
  exact PS.ok hG' X'.fr X'.M rfl rfl
end
end Go.Proofs
