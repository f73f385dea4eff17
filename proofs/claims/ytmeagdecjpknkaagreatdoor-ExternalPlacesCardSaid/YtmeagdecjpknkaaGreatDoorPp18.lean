/- Part 18 of a proof of a law of this seat: no statement of the seat is proved here. -/
import Derived.Test.YtmeagdecjpknkaaGreatDoorPp17
import Derived.Test.YtmeagdecjpknkaaGreatDoorPp16
import Derived.Test.YtmeagdecjpknkaaGreatDoorPp09
import Derived.Test.YtmeagdecjpknkaaGreatDoorPp15
import Derived.Test.YtmeagdecjpknkaaGreatDoorPp12
set_option linter.unusedVariables false
set_option linter.unusedSimpArgs false
namespace Go.Proofs
open Go Go.Sx
attribute [local irreducible] Go.Sx.Tri
section
variable{V0 V:Mem}{p mb:Nat}{k n:Int}{S:Sl3}{B N P:List Int}{f:Int->Option Int}
theorem qCj{s:Sl}{xs:List Int}(h:qAc V s 1 (xs.map qAd)){i:Nat}{x:Int}(hx:xs[i]?=some x):¬s.p=none/\(0:Int)<=(i:Int)/\(i:Int)<(s.n:Int)/\V.rowp s.p (i*1) 1=some [.int .i64 x]:=by
 have hn:=h.n_eq
 have hl:=(List.getElem?_eq_some_iff.1 hx).1
 obtain⟨y,-,hy,-,-,h1,h2,h3⟩:=h.get (i:=i) (by omega)
 rw[hx]at hy;cases hy
 exact⟨h1,h2,by omega,h3⟩
theorem c99(h:CaL V0 V p k n mb S S B N P f){s a b:Nat}(hP:P[s]?=some (a:Int))(hN:N[s]?=some (b:Int))(ha:a<N.length)(hb:b<P.length) :
  Tri Tryz.prog 99 #[pv p,.int .i64 s] V fun e V'=>e=.returned (.tuple #[])/\CaL V0 V' p k n mb S S B (N.set a b) (P.set b a) f:=by
 refine x99 ?_
 unfold w99
 obtain⟨n1,n2,n3,n4⟩:=qCj (h.no.rows (fun _=>rfl) (by decide)) hN
 obtain⟨p1,p2,p3,p4⟩:=qCj (h.po.rows (fun _=>rfl) (by decide)) hP
 have hnn:=(h.no.rows (row:=qAd) (xs:=N) (fun _=>rfl) (by decide)).n_eq
 have hpn:=(h.po.rows (row:=qAd) (xs:=P) (fun _=>rfl) (by decide)).n_eq
 refine⟨nn,nn,_,h.cell 4 1 (by decide),nn,nn,_,h.cell 5 1 (by decide),p1,p2,p3,_,p4,nn,nn,_,h.cell 5 1 (by decide),nn,nn,_,h.cell 4 1 (by decide),n1,n2,n3,_,n4,nn,nn,_,h.cell 4 1 (by decide),n1,n2,n3,_,n4,nn,nn,_,h.cell 5 1 (by decide),p1,p2,p3,_,p4,n1,by omega,by omega,h.setN ha fun V1 h1=>⟨p1,by omega,by omega,h1.setP hb fun V2 h2=>⟨rfl,h2⟩⟩⟩
theorem c100(h:CaL V0 V p k n mb S S B N P f){s q:Nat}(h0:N[0]?=some (q:Int))(hN:s<N.length)(hP:s<P.length)(hq:q<P.length)(hs:s≠0) :
  Tri Tryz.prog 100 #[pv p,.int .i64 s] V fun e V'=>e=.returned (.tuple #[])/\CaL V0 V' p k n mb S S B ((N.set s q).set 0 s) ((P.set s 0).set q s) f:=by
 refine x100 ?_
 unfold w100
 obtain⟨n1,n2,n3,n4⟩:=qCj (h.no.rows (fun _=>rfl) (by decide)) h0
 have hnn:=(h.no.rows (row:=qAd) (xs:=N) (fun _=>rfl) (by decide)).n_eq
 have hpn:=(h.po.rows (row:=qAd) (xs:=P) (fun _=>rfl) (by decide)).n_eq
 obtain⟨p1,-⟩:=qCj (h.po.rows (fun _=>rfl) (by decide)) (List.getElem?_eq_getElem hP)
 refine⟨nn,nn,_,h.cell 4 1 (by decide),nn,nn,_,h.cell 5 1 (by decide),nn,nn,_,h.cell 4 1 (by decide),n1,n2,n3,_,n4,n1,by omega,by omega,h.setN hN fun V1 h1=>⟨p1,by omega,by omega,h1.setP hP fun V2 h2=>?_⟩⟩
 obtain⟨m1,m2,m3,m4⟩:=qCj (h2.no.rows (fun _=>rfl) (by decide)) (i:=0) (x:=q) (by rw[List.getElem?_set_ne hs];exact h0)
 refine⟨nn,nn,_,h2.cell 5 1 (by decide),nn,nn,_,h2.cell 4 1 (by decide),m1,m2,m3,_,m4,nn,nn,_,h2.cell 4 1 (by decide),p1,by omega,by omega,h2.setP (by rw[List.length_set];exact hq) fun V3 h3=>⟨n1,by omega,by omega,h3.setN (i:=0) (by rw[List.length_set];omega) fun V4 h4=>⟨rfl,h4⟩⟩⟩
end
section
variable{V0 V:Mem}{p k n:Nat}{c:List Int}
theorem c90(h:CaAt p k c n V0 V):PP 90 [pv p] V (.int .i64 n):=by
 obtain⟨mb,S,B,N,P,L,f,h,-⟩:=h
 refine x90 ?_
 unfold w90
 exact⟨fun h=>absurd h nn,fun _=>⟨nn,nn,_,h.cell 1 1 (by decide),rfl,rfl⟩⟩
theorem c53{m:Int}:Tri Tryz.prog 53 #[.int .i64 m] V fun e V'=>(¬(1<=m/\m<=1000)/\e=.returned (.tuple #[.pointer none,.int .i64 2])/\V'=V)∨((1<=m/\m<=1000)/\∃p,e=.returned (.tuple #[pv p,.int .i64 0])/\CaAt p m.toNat [] 0 V V'):=by
 refine x53 ?_
 unfold w53
 refine⟨fun h=>.inl ⟨fun hh=>by have h:m<1:=h;omega,rfl,rfl⟩,fun h=>⟨fun h2=>.inl ⟨fun hh=>by have h2:1000<m:=h2;omega,rfl,rfl⟩,fun h2=>?_⟩⟩
 have hm:1<=m/\m<=1000:=by
  have h:¬m<1:=h
  have h2:¬1000<m:=h2
  omega
 refine GenK.makeMap fun mb hmb=>⟨some mb,rfl,fun b1 h1 b2 h22 b3 h3 p hp=>.inr ⟨hm,p,rfl,?_⟩⟩
 obtain⟨k,rfl⟩:∃k:Nat,m=(k:Int):=⟨m.toNat,by omega⟩
 have s1:=Mem.sub_new hmb (.map #[] 0)
 have s2:=Mem.sub_new h1 (.cells #[.int .i64 (-1)] 3 (0,0))
 have s3:=Mem.sub_new h22 (.cells #[.int .i64 0] 3 (0,0))
 have s4:=Mem.sub_new h3 (.cells #[.int .i64 0] 3 (0,0))
 have none0:∀{A U:Mem} {b:Nat},A.sub U->U b=none->A b=none:=fun {A U b} hs hb=>by
  cases e:A b with
  | none=>rfl
  | some o=>rw[hs _ _ e]at hb;cases hb
 have one:∀{W U:Mem} {b:Nat} {x:Int},W b=none->W.sub U->U b=some (.cells #[.int .i64 x] 3 (0,0))->Sx.Own W U 3 1 ⟨some ⟨b,0,none⟩,1,1⟩ ([x].flatMap qAd):=fun {W U b x} h0 hs hb=>⟨hs,rfl,.inr ⟨b,_,rfl,h0,hb,Nat.le_refl _,(show 1<=maxLen by decide),rfl,rfl⟩⟩
 have sa:V.sub _:=s1.trans (s2.trans (s3.trans s4))
 have s5:=Mem.sub_new hp (.cells (crow k 0 mb ⟨⟨some ⟨b1,0,none⟩,1,1⟩,⟨some ⟨b2,0,none⟩,1,1⟩,⟨some ⟨b3,0,none⟩,1,1⟩⟩).toArray 134 (0,0))
 have blk:∀{b c:Nat},Blk ⟨some ⟨b,0,none⟩,1,1⟩ c->c=b:=fun {b c} h=>by
  have:=h.2
  simp at this;omega
 have d12:b1≠b2:=fun e=>by rw[e,Mem.set_same]at h22;cases h22
 have d13:b1≠b3:=fun e=>by rw[<- e]at h3;rw[s3 _ _ mss]at h3;cases h3
 have d23:b2≠b3:=fun e=>by rw[e,Mem.set_same]at h3;cases h3
 refine⟨mb,⟨⟨some ⟨b1,0,none⟩,1,1⟩,⟨some ⟨b2,0,none⟩,1,1⟩,⟨some ⟨b3,0,none⟩,1,1⟩⟩,[-1],[0],[0],[],fun _=>none,⟨Mem.set_same _ _ _,((qFE.made V mb).sub (s2.trans (s3.trans (s4.trans s5)))).congr fun _=>rfl,none0 sa hp,hmb,one (none0 s1 h1) (sa.trans s5) ?_,one (none0 (s1.trans s2) h22) (sa.trans s5) ?_,one (none0 (s1.trans (s2.trans s3)) h3) (sa.trans s5) ?_,fun c k1 k2=>d12 ((blk k1).symm.trans (blk k2)),fun c k1 k2=>d13 ((blk k1).symm.trans (blk k2)),fun c k1 k2=>d23 ((blk k1).symm.trans (blk k2))⟩,?_⟩
 ·exact(s3.trans (s4.trans s5)) _ _ mss
 ·exact(s4.trans s5) _ _ mss
 ·exact s5 _ _ mss
 ·rw[Int.toNat_natCast];exact CaI.new (by omega)
end
theorem copyInt{V:Mem}{b:Nat}{l:Sl}{xs:List Int}(hb:V b=none)(h:qAc V l 1 (xs.map qAd))(hn:xs.length<=2147483648){ty:Nat}{x y:Operand}{vals:Operand->Value}(hx:vals x=.slice (sa b) 0 0)(hy:vals y=.slice l.p l.n l.c){Q:Value->Mem->Prop}(hQ:∀s V',Sx.Own V V' 3 1 s (xs.flatMap qAd)->Q (.slice s.p s.n s.c) V') :
  GenK Tryz.prog (.call { callee:=.builtin .append,args:=#[x,y],argTypes:=#[31,31] }) ty vals (V.set b (.cells #[] 3 (0,0))) Q:=by
 have s1:=Mem.sub_new hb (.cells #[] 3 (0,0))
 exact qDb (s:=⟨some ⟨b,0,none⟩,0,0⟩) (u:=l) (xs:=[]) (ys:=xs) hx hy (Own.empty (V0:=V) s1 _ _ _) (h.sub s1) (by simpa using hn) fun s' V' ho=>hQ s' V' (by simpa using ho)
section
variable{V V0:Mem}{d:Ds}{m:Mm}{F:Nat}{nm:ByteArray}{args:List Int}{l:Sl}
theorem good_lens(G:qAB d m):m.globals.length<=2147483648/\m.nodes.length<=4096/\∀n∈m.nodes,n.f.length<=2147483648:=by
 obtain⟨p1,p2,p3,p4,p5⟩:=qAh G.mem
 have h12:=lens12 G.valid
 refine⟨by grind [qAE],p2,fun n hn=>?_⟩
 have:=(qAE.1 (p5 n hn)).1
 have hty:=of_decide_eq_true (p3 n hn)
 obtain⟨j,hj⟩:∃j:Nat,n.ty=(j:Int):=⟨n.ty.toNat,by omega⟩
 have hjl:j<d.types.length:=by omega
 have hx:=List.getElem?_eq_getElem hjl
 rw[hj,qAS hx rfl]at this
 grind
end
section
variable{V V0:Mem}{d:Ds}{m:Mm}{nm:ByteArray}{args:List Int}{l:Sl}
theorem given_fuel{F:Int}(h:qBF d m F=0):0<=F/\F<=1048576:=by
 grind [qBF]
end
def rsS(s:St):St:=⟨s.g,s.ns,0,0,[]⟩
abbrev O4:=Int×Int×Nat×Nat
def oRow(o:O4):List Value:=qEl o.1 o.2.1 o.2.2.1 o.2.2.2
def outO(r:Rx Int):O4:=(outC r,outV r,r.st.cm,qBj r.st.lg)
structure Cl2 where
 name:ByteArray
 sl:Sl
 args:List Int
def Cl2.row(c:Cl2):List Value:=[.string c.name,c.sl.v]
structure Cls.Ok (V:Mem) (l:Sl) (cs:List Cl2):Prop where
 rows:qAc V l 2 (cs.map Cl2.row)
 args:∀c∈cs,qAc V c.sl 1 (c.args.map qAd)
theorem Cls.Ok.sub{V V':Mem}{l:Sl}{cs:List Cl2}(h:Cls.Ok V l cs)(hs:V.sub V'):Cls.Ok V' l cs:=⟨h.rows.sub hs,fun c hc=>(h.args c hc).sub hs⟩
section
variable(d:Ds)(F:Nat)
def qKb(c:Cl2)(s:St):Rx Int:=qCo d F (qDx d c.name) c.args s
def scE:St->List Cl2->Int
 | _,[]=>0
 | s,c::cs=>if qDj d s.mm c.name c.args=0 then scE (rsS (qKb d F c s).st) cs else qDj d s.mm c.name c.args
def scO:St->List Cl2->List O4
 | _,[]=>[]
 | s,c::cs=>outO (qKb d F c s)::scO (rsS (qKb d F c s).st) cs
def scS:St->List Cl2->St
 | s,[]=>s
 | s,c::cs=>scS (rsS (qKb d F c s).st) cs
end
noncomputable def scrE(d:Ds)(F:Int)(m:Mm)(cs:List Cl2):Int:=if qBF d m F=0 then (if 2000<cs.length then 4 else scE d F.toNat (qCi m) cs) else qBF d m F
theorem loop6{V:Mem}{B:Sl->Sl->Sl->Int->Sl->Int->Mem->(List Value->Mem->Prop)->Prop}{a0 b0 x0:Sl}{y0:Int}{c0:Sl}(len:Nat)(St:Nat->Sl->Sl->Sl->Mem->Prop)(h0:St 0 a0 b0 c0 V)
  (step:∀(i:Nat) (a b x:Sl) (y:Int) (c:Sl) V1 J,i<=len->St i a b c V1->(i<len->∀(a' b' x':Sl) (y':Int) (c':Sl) V2,St (i+1) a' b' c' V2->J [.slice a'.p a'.n a'.c,.slice b'.p b'.n b'.c,.slice x'.p x'.n x'.c,.int .i64 y',.slice c'.p c'.n c'.c,.int .i64 ((i:Int)+1)] V2)->B a b x y c (i:Int) V1 J) :
  ∃(I:Nat->List Value->Mem->Prop) (n0:Nat),I n0 [.slice a0.p a0.n a0.c,.slice b0.p b0.n b0.c,.slice x0.p x0.n x0.c,.int .i64 y0,.slice c0.p c0.n c0.c,.int .i64 0] V/\∀n V1,∀(a b x:Sl) (y:Int) (c:Sl) (v:Int),I n [.slice a.p a.n a.c,.slice b.p b.n b.c,.slice x.p x.n x.c,.int .i64 y,.slice c.p c.n c.c,.int .i64 v] V1->∀J:List Value->Mem->Prop,(∀m ys V'',m<n->I m ys V''->J ys V'')->B a b x y c v V1 J:=by
 refine⟨LI len fun i xs V=>∃(a b x:Sl) (y:Int) (c:Sl),xs=[.slice a.p a.n a.c,.slice b.p b.n b.c,.slice x.p x.n x.c,.int .i64 y,.slice c.p c.n c.c,.int .i64 i]/\St i a b c V,len,LI.start ⟨a0,b0,x0,y0,c0,rfl,h0⟩,?_⟩
 rintro n V1 a b x y c v ⟨i,rfl,hi,a',b',x',y',c',hx,hs⟩ J hJ
 simp only[List.cons.injEq,Value.int.injEq,true_and,and_true]at hx
 obtain⟨h1,h2,h3,rfl,h5,rfl⟩:=hx
 cases qBk _ _ h1
 cases qBk _ _ h2
 cases qBk _ _ h5
 exact step i _ _ _ _ _ V1 J hi hs fun hlt a' b' x' y' c' V2 h2=>LI.next hJ hlt ⟨a',b',x',y',c',rfl,h2⟩
theorem app73:AppP 73 54 5 oRow:=appG Tryz.underlying73 (by kernel_rfl) (by kernel_rfl) (by kernel_rfl) (by kernel_rfl) (by kernel_rfl) (by decide) (by intro _;rfl) fun x u hu=>by simp only[oRow,qEl,List.mem_cons,List.not_mem_nil,or_false]at hu;rcases hu with rfl|rfl|rfl|rfl|rfl <;> rfl
theorem one_out{V:Mem}{b t:Nat}(o:O4)(h:V b=some (.cells (oRow o).toArray t (0,0))):qAc V ⟨some ⟨b,0,none⟩,1,1⟩ 5 ([o].map oRow) :=
 qAc.cells (xs:=[o]) (row:=oRow) h rfl (fun _=>rfl) rfl (by simp)
section
variable{V V0:Mem}{d:Ds}{F:Nat}{m:Mm}{l:Sl}{cs:List Cl2}
theorem mm_len'{s:St}{a b:Sl}{nd:List Nd}(h:nd.map (fun n=>(n.ty,n.f))=s.ns):(⟨a,s.g,b,nd⟩:Mm).plain=s.mm.plain:=by
 grind [St.plain,Mm.plain]
theorem lay_rs{W V:Mem}{gs ns ls:Sl}{nd:List Nd}{s:St}(L:Lay W V gs ns ls nd s):Lay W V gs ns qAT nd (rsS s):=⟨L.glob,L.nodes,Own.nil L.sub _ _,L.fld,L.eq,L.gf,L.ff⟩
theorem st_eta{s:St}(h:s=rsS s){a b:Sl}{nd:List Nd}(he:nd.map (fun n=>(n.ty,n.f))=s.ns):qCi ⟨a,s.g,b,nd⟩=s:=by
 grind [qCi,rsS]
def ScrP(V:Mem)(d:Ds)(F:Int)(m:Mm)(cs:List Cl2):Ending->Mem->Prop:=fun e V'=>V.sub V' /\
 ((scrE d F m cs≠0/\e=.returned (.tuple #[qAT.v,.agg #[qAT.v,qAT.v],.int .i64 (scrE d F m cs)])) ∨
 (scrE d F m cs=0/\∃(o a b:Sl) (nd:List Nd),qAc V' o 5 ((scO d F.toNat (qCi m) cs).map oRow)/\Mm.Ok V' ⟨a,(scS d F.toNat (qCi m) cs).g,b,nd⟩/\nd.map (fun n=>(n.ty,n.f))=(scS d F.toNat (qCi m) cs).ns/\qAB d (scS d F.toNat (qCi m) cs).mm/\e=.returned (.tuple #[o.v,.agg #[a.v,b.v],.int .i64 0])))
structure At (d:Ds) (F:Nat) (s0:St) (cs:List Cl2) (j:Nat) (outs:List O4) (s:St):Prop where
 err:scE d F s0 cs=scE d F s (cs.drop j)
 out:scO d F s0 cs=outs++scO d F s (cs.drop j)
 st:scS d F s0 cs=scS d F s (cs.drop j)
 len:outs.length=j
 rs:s=rsS s
 good:qAB d s.mm
theorem At.start{s:St}(h:s=rsS s)(G:qAB d s.mm):At d F s cs 0 [] s:=⟨by rfl,by rfl,by rfl,rfl,h,G⟩
theorem At.next{s0 s:St}{j:Nat}{outs:List O4}{c:Cl2}(h:At d F s0 cs j outs s)(hc:cs.drop j=c::cs.drop (j+1))(h0:qDj d s.mm c.name c.args=0)(hg:qAB d (qKb d F c s).st.mm):At d F s0 cs (j+1) (outs++[outO (qKb d F c s)]) (rsS (qKb d F c s).st):=by
 have e1:=h.err
 have e2:=h.out
 have e3:=h.st
 rw[hc]at e1 e2 e3
 refine⟨?_,?_,e3,by rw[List.length_append,h.len];rfl,rfl,⟨hg.valid,hg.chk,hg.mem⟩⟩
 ·grind [scE]
 ·rw[e2,scO];simp
theorem At.stop{s0 s:St}{j:Nat}{outs:List O4}{c:Cl2}(h:At d F s0 cs j outs s)(hc:cs.drop j=c::cs.drop (j+1))(h0:qDj d s.mm c.name c.args≠0):scE d F s0 cs=qDj d s.mm c.name c.args:=by
 rw[h.err,hc,scE,if_neg h0]
theorem c33[Tab V](hd:Ds.Ok V d)(hm:Mm.Ok V m)(hcs:Cls.Ok V l cs){F:Int}(hF:F<=3000∨1048576<F):Tri Tryz.prog 33 #[d.v,m.v,l.v,.int .i64 F] V (ScrP V d F m cs):=by
 refine x33 (R:=ScrP V d F m cs) ?_
 unfold w33
 have hln:=hcs.rows.n_eq
 have bad:∀{k:Int} {V':Mem},scrE d F m cs=k->k≠0->V.sub V'->ScrP V d F m cs (.returned (.tuple #[qAT.v,.agg #[qAT.v,qAT.v],.int .i64 k])) V':=fun h hk hs=>⟨hs,.inl ⟨by rw[h];exact hk,by rw[h]⟩⟩
 refine(c71 hd hm).call ⟨_,rfl,fun h0=>⟨fun hl=>?_,fun hl=>?_⟩,fun h0=>?_⟩
 ·exact bad (by grind [scrE]) (by decide) (Mem.sub.refl _)
 rotate_left
 ·exact bad (by grind [scrE]) h0 (Mem.sub.refl _)
 have hl:¬(2000:Int)<(l.n:Int):=hl
 have G:=qER h0
 have hf:=given_fuel h0
 obtain⟨n,rfl⟩:∃n:Nat,F=(n:Int):=⟨F.toNat,by omega⟩
 have hsc:scrE d (n:Int) m cs=scE d n (qCi m) cs:=by grind [scrE]
 obtain⟨l1,l2,l3⟩:=good_lens G
 refine Tri.mono (c72 hm l1 l2 l3) ?_
 rintro _ V1 ⟨gs,ns,nd,rfl,L⟩
 refine⟨gs,ns,rfl,loop6 (x0:=qAT) (y0:=0) (c0:=qAT) cs.length (fun j a b o V2=>∃W outs s nd,V.sub W/\Sx.Own V W 54 5 o (outs.flatMap oRow)/\Lay W V2 a b qAT nd s/\At d n (qCi m) cs j outs s) ⟨V,[],qCi m,nd,Mem.sub.refl _,Own.nil (Mem.sub.refl _) _ _,L,.start rfl (qKG G)⟩ ?_⟩
 rintro j a b x y o V2 J hj ⟨W,outs,s,nd,hW,ho,L,A⟩ hJ
 have hc2:=hcs.sub (hW.trans L.sub)
 refine⟨fun hlt=>?_,fun hge=>?_⟩
 ·obtain⟨c,hcm,hc,hdr,hjl,hp,hz,hrow⟩:=hc2.rows.get hlt
  have hst:=st_eta (a:=a) (b:=b) A.rs L.eq
  have Gm:qAB d ⟨a,s.g,b,nd⟩:=⟨A.good.valid,A.good.chk,qFk (mm_len' L.eq).symm A.good.mem⟩
  have hmk:=(mm_of_lay (hd.sub hW) L A.good).1
  have hcl:qDj d ⟨a,s.g,b,nd⟩ c.name c.args=qDj d s.mm c.name c.args:=qJO (mm_len' L.eq)
  refine⟨hp,hz,hlt,_,_,hrow,Tri.mono (c73 (F:=n) (m:=⟨a,s.g,b,nd⟩) ⟨hd.sub hW,G.valid,qHz G.valid G.chk,by omega⟩ (by grind) hmk Gm ((hcs.args c hcm).sub hW)) ?_⟩
  rintro e V3 (⟨hk,s3,rfl⟩|⟨hk,p,cc,r,hr,M,rfl⟩)
  ·rw[hcl]at hk ⊢
   exact⟨_,_,_,_,_,_,_,rfl,fun h=>absurd h hk,fun _=>bad (hsc.trans (A.stop hdr hk)) hk (hW.trans (L.sub.trans s3))⟩
  ·rw[hcl]at hk
   rw[hst]at hr
   have hr:r=qKb d n c s:=hr
   refine⟨_,_,_,_,_,_,_,rfl,fun _ tb htb=>?_,fun h=>absurd rfl h⟩
   have ho3:Sx.Own V V3 54 5 o (outs.flatMap oRow):=Own.moveB ho (hW.trans M.sub) fun g cur _ hg=>M.sub _ _ hg
   refine app73 (s:=o) (u:=⟨some ⟨tb,0,none⟩,1,1⟩) (xs:=outs) (ys:=[outO r]) rfl rfl (ho3.but.new htb (.cells (oRow (outO r)).toArray 54 (0,0))) (one_out (outO r) mss) (by have:=A.len;simp;omega) fun o4 V4 ho4=>⟨o4,rfl,?_⟩
   obtain⟨W',hW',M4,ho5⟩:=M.beside hW ho ho4
   obtain⟨gs4,ns4,ls4,nd4,hat,L4⟩:=M4.ex
   have hgd:qAB d (qKb d n c s).st.mm:=by
    have:=play_good (F:=n) Gm (by rw[hcl];exact hk)
    simp_all
   have A':=A.next hdr hk hgd
   rw[<- hr]at A'
   exact⟨nn,nn,gs4,ns4,qAe hat 8 2 (by simp[qBN]),hc2.rows.succ hlt,hJ hjl _ _ _ _ _ _ ⟨W',_,_,nd4,hW',ho5,lay_rs L4,A'⟩⟩
 ·have hdn:=(hc2.rows.done hge).2
  have e1:=A.err
  have e2:=A.out
  have e3:=A.st
  rw[List.drop_eq_nil_of_le hdn]at e1 e2 e3
  have e1:scE d n (qCi m) cs=0:=e1
  have e2:scO d n (qCi m) cs=outs:=by rw[e2];simp[scO]
  have e3:scS d n (qCi m) cs=s:=e3
  refine⟨hW.trans L.sub,.inr ⟨hsc.trans e1,o,a,b,nd,?_,?_,?_,?_,rfl⟩⟩
  ·show qAc V2 o 5 ((scO d n (qCi m) cs).map oRow)
   rw[e2];exact(ho.rows (fun _=>rfl) (by decide)).sub L.sub
  ·show Mm.Ok V2 ⟨a,(scS d n (qCi m) cs).g,b,nd⟩
   rw[e3];exact(mm_of_lay (hd.sub hW) L A.good).1
  ·show _=(scS d n (qCi m) cs).ns
   rw[e3];exact L.eq
  ·show qAB d (scS d n (qCi m) cs).mm
   rw[e3];exact A.good
end
end Go.Proofs
namespace Go.Proofs
open Go Go.Sx
end Go.Proofs
namespace Go.Proofs
open Go Go.Sx
end Go.Proofs
namespace Go.Proofs
open Go Go.Sx
structure Sr where
 order:List Int
 again:Int
def qCw(x:Fld×Int):Bool:=!qBR x.1.ty&&decide (x.2≠0)
def qJX(l:List Fld)(vs:List Int)(i:Nat):List Int:=(((l.zip vs).take i).filter qCw).map (·.2)
def tgt(l:List Fld)(vs:List Int):List Int:=((l.zip vs).filter qCw).map (·.2)
def qAx(d:Ds)(m:Mm)(n:Int):List Int:=match m.nodes[(n-1).toNat]? with|some x=>tgt (qAq d x.ty) x.f|none=>[]
def qDy(d:Ds)(m:Mm):Nat->Sr->Int->Sr
 | 0,st,_=>st
 | f+1,st,n=>if n∈st.order then ⟨st.order,if st.again=0 then n else st.again⟩ else (qAx d m n).foldl (qDy d m f) ⟨st.order++[n],st.again⟩
def lookP(d:Ds)(m:Mm)(f:Nat)(st:Sr)(l:List Fld)(vs:List Int):Sr:=(tgt l vs).foldl (qDy d m f) st
def qFR(d:Ds)(m:Mm):Sr:=lookP d m (m.nodes.length+1) ⟨[],0⟩ d.globals m.globals
theorem tgtI_zero(l:List Fld)(vs:List Int):qJX l vs 0=[]:=rfl
theorem qDA{l:List Fld}{vs:List Int}{i:Nat}{f:Fld}{v:Int}(hf:l[i]?=some f)(hv:vs[i]?=some v):qJX l vs (i+1)=qJX l vs i++if qCw (f,v)=true then [v] else []:=by
 have hz:(l.zip vs)[i]?=some (f,v):=by rw[List.getElem?_zip_eq_some];exact⟨hf,hv⟩
 unfold qJX
 rw[List.take_add_one,hz,List.filter_append,List.map_append]
 by_cases h:qCw (f,v)=true
 ·simp[h]
 ·simp[h]
theorem qHu{l:List Fld}{vs:List Int}{i:Nat}(h:l.length<=i):qJX l vs i=tgt l vs:=by
 unfold qJX tgt
 rw[List.take_of_length_le]
 rw[List.length_zip];omega
def unS(m:Mm)(st:Sr):Nat:=((List.range m.nodes.length).filter fun(i:Nat)=>!decide (((i:Int)+1)∈st.order)).length
theorem entP_sub(d:Ds)(m:Mm):∀(f:Nat) (st:Sr) (n:Int),∀x∈st.order,x∈(qDy d m f st n).order
 | 0,st,n,x,h=>h
 | f+1,st,n,x,h=>by
  unfold qDy
  split
  ·exact h
  ·have:∀(l:List Int) (s:Sr),x∈s.order->x∈(l.foldl (qDy d m f) s).order:=fun l=>by
    induction l with
    | nil=>exact fun s h=>h
    | cons a l ih=>exact fun s h=>ih _ (entP_sub d m f s a x h)
   exact this _ _ (List.mem_append_left _ h)
theorem foldP_sub(d:Ds)(m:Mm)(f:Nat)(x:Int):∀(l:List Int) (s:Sr),x∈s.order->x∈(l.foldl (qDy d m f) s).order:=fun l=>by
 induction l with
 | nil=>exact fun s h=>h
 | cons a l ih=>exact fun s h=>ih _ (entP_sub d m f s a x h)
theorem qIG{α:Type}{p q:α->Bool}:∀{l:List α},(∀a∈l,q a=true->p a=true)->(l.filter q).length<=(l.filter p).length
 | [],_=>Nat.le_refl _
 | a::l,h=>by
  have ih:=qIG (l:=l) fun x hx=>h x (List.mem_cons_of_mem _ hx)
  have ha:=h a List.mem_cons_self
  rw[List.filter_cons,List.filter_cons]
  cases hq:q a with
  | true=>rw[ha hq];simpa using ih
  | false =>
   cases hp:p a with
   | true=>simp;omega
   | false=>simpa using ih
theorem filter_lt{α:Type}{p q:α->Bool}:∀{l:List α},(∀a∈l,q a=true->p a=true)->∀a∈l,p a=true->q a=false->(l.filter q).length<(l.filter p).length
 | [],_,a,ha,_,_=>by cases ha
 | b::l,h,a,ha,hp,hq=>by
  have h':∀x∈l,q x=true->p x=true:=fun x hx=>h x (List.mem_cons_of_mem _ hx)
  rw[List.filter_cons,List.filter_cons]
  rcases List.mem_cons.1 ha with rfl|hm
  ·rw[hp,hq]
   have:=qIG h'
   simp;omega
  ·have ih:=filter_lt h' a hm hp hq
   have hb:=h b List.mem_cons_self
   cases hqb:q b with
   | true=>rw[hb hqb];simpa using ih
   | false =>
    cases hpb:p b with
    | true=>simp;omega
    | false=>simpa using ih
section
variable{d:Ds}{m:Mm}{st:Sr}
theorem unS_le{a b:Sr}(h:∀x∈a.order,x∈b.order):unS m b<=unS m a:=by
 unfold unS
 refine qIG fun i _ hi=>?_
 simp only[Bool.not_eq_true',decide_eq_false_iff_not]at hi ⊢
 exact fun k=>hi (h _ k)
theorem unS_lt{n:Int}(hn:1<=n/\n<=(m.nodes.length:Int))(h:¬n∈st.order){a:Int}:unS m ⟨st.order++[n],a⟩<unS m st:=by
 unfold unS
 obtain⟨i,rfl⟩:∃i:Nat,n=(i:Int)+1:=⟨(n-1).toNat,by omega⟩
 refine filter_lt (fun j _ hj=>?_) i (List.mem_range.2 (by omega)) (by simpa using h) (by simp)
 simp only[Bool.not_eq_true',decide_eq_false_iff_not]at hj ⊢
 exact fun k=>hj (List.mem_append_left _ k)
theorem qJw{xs:List Fld}{vs:List Int}(h:qAg d m xs vs=true){i:Nat}{f:Fld}{v:Int}(hf:xs[i]?=some f)(hvv:vs[i]?=some v)(hp:qBR f.ty=false)(h0:v≠0):1<=v/\v<=(m.nodes.length:Int):=by
 obtain⟨v',hv',hr⟩:=qFH h hf
 rw[hvv]at hv';cases hv'
 unfold qBR at hp
 simp only[Bool.or_eq_false_iff,decide_eq_false_iff_not]at hp
 unfold qAt at hr
 rw[if_neg hp.1,if_neg hp.2,decide_eq_true_eq]at hr
 rcases hr with h|⟨h1,h2,-⟩
 ·exact absurd h h0
 ·exact⟨h1,h2⟩
end
section
variable{d:Ds}{m c:Mm}{O:List Int}
structure Cl (d:Ds) (m:Mm) (a b:Sr):Prop where
 sub:∀x∈a.order,x∈b.order
 shut:∀x∈b.order,x∈a.order∨∀y∈qAx d m x,y∈b.order
 dup:a.order.Nodup->b.order.Nodup
 rng:(∀x∈a.order,1<=x/\x<=(m.nodes.length:Int))->∀x∈b.order,1<=x/\x<=(m.nodes.length:Int)
 cap:a.order.length+unS m a<=m.nodes.length->b.order.length+unS m b<=m.nodes.length
theorem Cl.trans{a b e:Sr}(h:Cl d m a b)(k:Cl d m b e):Cl d m a e:=⟨fun x hx=>k.sub x (h.sub x hx),fun x hx=>by
 rcases k.shut x hx with hx|hx
 ·rcases h.shut x hx with hx|hx
  ·exact .inl hx
  ·exact .inr fun y hy=>k.sub y (hx y hy)
 ·exact .inr hx,fun n=>k.dup (h.dup n),fun r=>k.rng (h.rng r),fun r=>k.cap (h.cap r)⟩
theorem tgt_mem{l:List Fld}{vs:List Int}{y:Int}:y∈tgt l vs↔∃(i:Nat) (f:Fld),l[i]?=some f/\vs[i]?=some y/\qBR f.ty=false/\y≠0:=by
 unfold tgt qCw
 simp only[List.mem_map,List.mem_filter,Bool.and_eq_true,Bool.not_eq_true',decide_eq_true_eq,Prod.exists,exists_eq_right]
 constructor
 ·rintro ⟨f,h,h1,h2⟩
  obtain⟨i,hi⟩:=List.mem_iff_getElem?.1 h
  rw[List.getElem?_zip_eq_some]at hi
  exact⟨i,f,hi.1,hi.2,h1,h2⟩
 ·rintro ⟨i,f,h,h1,h2,h3⟩
  exact⟨f,List.mem_iff_getElem?.2 ⟨i,List.getElem?_zip_eq_some.2 ⟨h,h1⟩⟩,h2,h3⟩
theorem qGV(hv:qAs d m=true):(∀y∈tgt d.globals m.globals,1<=y/\y<=(m.nodes.length:Int))/\∀n,∀y∈qAx d m n,1<=y/\y<=(m.nodes.length:Int):=by
 obtain⟨-,-,-,p4,p5⟩:=qAh hv
 refine⟨fun y hy=>?_,fun n y hy=>?_⟩
 ·obtain⟨i,f,h1,h2,h3,h4⟩:=tgt_mem.1 hy
  exact qJw p4 h1 h2 h3 h4
 ·unfold qAx at hy
  split at hy
  ·rename_i x hx
   obtain⟨i,f,h1,h2,h3,h4⟩:=tgt_mem.1 hy
   exact qJw (p5 x (List.mem_of_getElem? hx)) h1 h2 h3 h4
  ·cases hy
theorem qKJ{f:Nat}(H:∀st n,1<=n/\n<=(m.nodes.length:Int)->unS m st<f->Cl d m st (qDy d m f st n)/\n∈(qDy d m f st n).order) :
  ∀(l:List Int) (s:Sr),(∀y∈l,1<=y/\y<=(m.nodes.length:Int))->unS m s<f->Cl d m s (l.foldl (qDy d m f) s)/\∀y∈l,y∈(l.foldl (qDy d m f) s).order
 | [],s,_,_=>⟨⟨fun _ h=>h,fun _ h=>.inl h,fun h=>h,fun h=>h,fun h=>h⟩,fun _ h=>by cases h⟩
 | a::l,s,hl,hs=>by
  obtain⟨c1,c2⟩:=H s a (hl a List.mem_cons_self) hs
  obtain⟨e1,e2⟩:=qKJ H l (qDy d m f s a) (fun y hy=>hl y (List.mem_cons_of_mem _ hy)) (by have:=unS_le (m:=m) c1.sub;omega)
  refine⟨c1.trans e1,fun y hy=>?_⟩
  rcases List.mem_cons.1 hy with rfl|hy
  ·exact e1.sub _ c2
  ·exact e2 y hy
theorem ent_cl(hv:qAs d m=true):∀(f:Nat) (st:Sr) (n:Int),1<=n/\n<=(m.nodes.length:Int)->unS m st<f->Cl d m st (qDy d m f st n)/\n∈(qDy d m f st n).order
 | 0,_,_,_,h=>absurd h (Nat.not_lt_zero _)
 | f+1,st,n,hn,hf=>by
  rw[qDy]
  split
  ·rename_i h;exact⟨⟨fun _ h=>h,fun _ h=>.inl h,fun h=>h,fun h=>h,fun h=>h⟩,h⟩
  ·rename_i hno
   have hlt:=unS_lt hn hno (a:=st.again)
   obtain⟨c1,c2⟩:=qKJ (ent_cl hv f) (qAx d m n) ⟨st.order++[n],st.again⟩ (fun y hy=>(qGV hv).2 n y hy) (by omega)
   have hm:n∈(⟨st.order++[n],st.again⟩:Sr).order:=by simp
   refine⟨⟨fun x hx=>c1.sub x (List.mem_append_left _ hx),fun x hx=>?_,fun h=>c1.dup ?_,fun h=>c1.rng fun x hx=>?_,fun h=>c1.cap ?_⟩,c1.sub n hm⟩
   ·rcases c1.shut x hx with h|h
    ·rcases List.mem_append.1 h with h|h
     ·exact .inl h
     ·rw[List.mem_singleton.1 h];exact .inr c2
    ·exact .inr h
   ·show (st.order++[n]).Nodup
    rw[List.nodup_append]
    refine⟨h,by simp,fun a ha b hb e=>hno ?_⟩
    rw[<- List.mem_singleton.1 hb,<- e];exact ha
   ·rcases List.mem_append.1 hx with hx|hx
    ·exact h x hx
    ·rw[List.mem_singleton.1 hx];exact hn
   ·show (st.order++[n]).length+_<=_
    rw[List.length_append,List.length_singleton];omega
structure Rch (d:Ds) (m:Mm) (O:List Int):Prop where
 dup:O.Nodup
 rng:∀x∈O,1<=x/\x<=(m.nodes.length:Int)
 glob:∀y∈tgt d.globals m.globals,y∈O
 shut:∀x∈O,∀y∈qAx d m x,y∈O
 cap:O.length<=m.nodes.length
theorem qJU:unS m ⟨[],0⟩<=m.nodes.length:=by
 unfold unS
 have:=List.length_filter_le (fun i:Nat=>!decide (((i:Int)+1)∈(⟨[],0⟩:Sr).order)) (List.range m.nodes.length)
 rw[List.length_range]at this
 exact this
theorem qHy(hv:qAs d m=true):Rch d m (qFR d m).order:=by
 have hu:=qJU (m:=m)
 obtain⟨c1,c2⟩:=qKJ (ent_cl hv (m.nodes.length+1)) (tgt d.globals m.globals) ⟨[],0⟩ (qGV hv).1 (by omega)
 refine⟨c1.dup List.nodup_nil,c1.rng (fun x hx=>by cases hx),c2,fun x hx=>?_,?_⟩
 ·rcases c1.shut x hx with h|h
  ·cases h
  ·exact h
 ·have:=c1.cap (by show 0+_<=_;omega)
  exact Nat.le_trans (Nat.le_add_right _ _) this
def posI(l:List Int)(x:Int):Int:=qJK (fun y=>decide (y=x)) l
end
end Go.Proofs
namespace Go.Proofs
open Go Go.Sx
end Go.Proofs
namespace Go.Proofs
open Go Go.Sx
attribute [local irreducible] Go.Sx.Tri
section
variable{V0 V V1:Mem}{d:Ds}{m:Mm}{p ib:Nat}{st:Sr}{o:Sl}
def srow(d:Ds)(m:Mm)(o:Sl)(ib:Nat)(a:Int):List Value:=[Go.Sx.vS d.name,d.ts.v,d.gs.v,d.ps.v,d.ms.v,d.is.v,d.qs.v,d.bs.v,m.gs.v,m.ns.v,o.v,.map (some ib),.int .i64 a]
def kn(O:List Int)(n:Int):Option Int:=if n∈O then some (posI O n+1) else none
theorem pos_app{O:List Int}{n x:Int}(hx:x∈O):posI (O++[n]) x=posI O x:=by
 unfold posI qJK
 rw[List.findIdx?_append]
 cases h:O.findIdx? (fun y=>decide (y=x)) with
 | none=>exact absurd (decide_eq_true rfl) (by rw[List.findIdx?_eq_none_iff.1 h x hx];decide)
 | some i=>rfl
theorem pos_new{O:List Int}{n:Int}(hn:¬n∈O):posI (O++[n]) n=(O.length:Int):=by
 unfold posI qJK
 have h:O.findIdx? (fun y=>decide (y=n))=none:=List.findIdx?_eq_none_iff.2 fun x hx=>decide_eq_false (by rintro rfl;exact hn hx)
 rw[List.findIdx?_append,h]
 simp[List.findIdx?_cons]
theorem kn_new{O:List Int}{n:Int}(hn:¬n∈O)(x:Int):kn (O++[n]) x=if x=n then some ((O.length:Int)+1) else kn O x:=by
 unfold kn
 by_cases hx:x=n
 ·subst hx
  rw[if_pos (by simp),if_pos rfl,pos_new hn]
 ·rw[if_neg hx]
  by_cases hm:x∈O
  ·rw[if_pos (by simp[hm]),if_pos hm,pos_app hm]
  ·rw[if_neg (by simp[hm,hx]),if_neg hm]
structure SrAt (V0:Mem) (d:Ds) (m:Mm) (p ib:Nat) (V:Mem) (st:Sr) (o:Sl):Prop where
 at_:V p=some (.cells (srow d m o ib st.again).toArray 253 (0,0))
 own:Sx.Own V0 V 3 1 o (st.order.flatMap qAd)
 map:qFE (Value.int .i64) V ib fun n=>(kn st.order n).map (Value.int .i64)
 cap:st.order.length+unS m st<=m.nodes.length
 rng:∀x∈st.order,1<=x/\x<=(m.nodes.length:Int)
structure SrS (V0:Mem) (d:Ds) (m:Mm) (p ib:Nat):Prop where
 mem:qAs d m=true
 ds:Ds.Ok V0 d
 mm:Mm.Ok V0 m
 p0:V0 p=none
 i0:V0 ib=none
 pi:p≠ib
theorem SrAt.cell(h:SrAt V0 d m p ib V st o)(i n:Nat)(hi:i+n<=13):V.rowp (sa p) i n=some (((srow d m o ib st.again).drop i).take n):=qAe h.at_ i n hi
theorem kn_pos{O:List Int}{n:Int}(h:n∈O):∃j,kn O n=some j/\1<=j:=by
 unfold kn
 rw[if_pos h]
 refine⟨_,rfl,?_⟩
 unfold posI
 rcases qBv (fun y=>decide (y=n)) O with⟨-,-,h1⟩|⟨j,z,h1,-⟩
 ·rw[List.any_eq_false]at h1
  exact absurd (decide_eq_true rfl) (h1 n h)
 ·rw[h1];omega
def SrPost(V0:Mem)(d:Ds)(m:Mm)(p ib:Nat)(st:Sr):Ending->Mem->Prop:=fun e V'=>e=.returned (.tuple #[])/\∃o,SrAt V0 d m p ib V' st o
variable(V0 d m p ib) in
def EntC(N:Nat):Prop:=∀(st:Sr) (n:Int) (f:Nat) V o,SrAt V0 d m p ib V st o->1<=n/\n<=(m.nodes.length:Int)->unS m st<=N->unS m st<f ->
 Tri Tryz.prog 254 #[pv p,.int .i64 n] V (SrPost V0 d m p ib (qDy d m f st n))
theorem lookC{N:Nat}(hE:EntC V0 d m p ib N){l s:Sl}{xs:List Fld}{vs:List Int}(hl:qAc V0 l 2 (xs.map Fld.row))(hs:qAc V0 s 1 (vs.map qAd))(hv:qAg d m xs vs=true){f:Nat}(h:SrAt V0 d m p ib V st o)(hN:unS m st<=N)(hf:unS m st<f) :
  Tri Tryz.prog 209 #[pv p,l.v,s.v] V (SrPost V0 d m p ib ((tgt xs vs).foldl (qDy d m f) st)):=by
 refine Tri.mono (x209 (R:=SrPost V0 d m p ib ((tgt xs vs).foldl (qDy d m f) st)) ?_) fun _ _ h=>h
 unfold w209
 have hlen:xs.length=vs.length:=(qAE.1 hv).1
 refine qJb xs.length (fun i V1=>∃o1,SrAt V0 d m p ib V1 ((qJX xs vs i).foldl (qDy d m f) st) o1) ⟨o,by rw[tgtI_zero];exact h⟩ ?_
 rintro i V1 J hi ⟨o1,h1⟩ hJ
 have hl1:=hl.sub h1.own.sub
 have hs1:=hs.sub h1.own.sub
 refine⟨fun hlt=>?_,fun hge=>?_⟩
 ·obtain⟨x,hxm,hx,-,hil,hp,hz,hrow⟩:=hl1.get hlt
  have n1:=hl1.n_eq
  have n2:=hs1.n_eq
  obtain⟨y,hym,hy,-,hjl,hpy,hzy,hrowy⟩:=hs1.get (i:=i) (by omega)
  have hu:unS m ((qJX xs vs i).foldl (qDy d m f) st)<=unS m st:=unS_le fun z hz=>foldP_sub d m f z _ _ hz
  have same:qCw (x,y)=false->∃o2,SrAt V0 d m p ib V1 ((qJX xs vs (i+1)).foldl (qDy d m f) st) o2:=fun hr=>by
   rw[qDA hx hy,hr,if_neg (by decide),List.append_nil];exact⟨o1,h1⟩
  refine⟨hp,hz,hlt,_,_,hrow,c124.call ⟨_,rfl,fun h2=>⟨hl1.succ hlt,hJ hil _ (same ?_)⟩,fun h2=>⟨hpy,hzy,by omega,_,hrowy,fun h3=>⟨hl1.succ hlt,hJ hil _ (same ?_)⟩,fun h3=>⟨hpy,hzy,by omega,_,hrowy,?_⟩⟩⟩⟩
  ·unfold qCw;rw[show qBR x.ty=true from h2];rfl
  ·have h3:y=0:=h3
   unfold qCw;rw[h3];simp
  ·have hpl:qBR x.ty=false:=(Bool.not_eq_true _).mp h2
   have h3:¬y=0:=h3
   have hr:qCw (x,y)=true:=by unfold qCw;rw[hpl,decide_eq_true h3];rfl
   refine Tri.mono (hE _ y f V1 o1 h1 (qJw hv hx hy hpl h3) (by omega) (by omega)) ?_
   rintro _ V2 ⟨rfl,o2,h4⟩
   refine⟨rfl,hl1.succ hlt,hJ hil _ ⟨o2,?_⟩⟩
   rw[qDA hx hy,hr,if_pos rfl,List.foldl_append,List.foldl_cons,List.foldl_nil]
   exact h4
 ·have hd:=(hl1.done hge).2
  rw[qHu hd]at h1
  exact⟨rfl,o1,h1⟩
theorem enterC(S:SrS V0 d m p ib)(N:Nat)(ih:∀N',N'<N->EntC V0 d m p ib N'):EntC V0 d m p ib N:=by
 intro st n f V o h hn hN hf
 obtain⟨f,rfl⟩:∃f',f=f'+1:=⟨f-1,by omega⟩
 refine Tri.mono (x254 (R:=SrPost V0 d m p ib (qDy d m (f+1) st n)) ?_) fun _ _ h=>h
 unfold w254
 have hg:=h.map
 refine⟨nn,nn,_,h.cell 11 1 (by decide),qBs.key1 (k:=n) (qGb Tryz.underlying3) Tryz.underlying132 qFh hg ?_⟩
 by_cases hin:n∈st.order
 ·obtain⟨j,hj,hj1⟩:=kn_pos hin
  rw[hj]
  have e:qDy d m (f+1) st n=⟨st.order,if st.again=0 then n else st.again⟩:=by unfold qDy;rw[if_pos hin]
  rw[e]
  refine⟨j,rfl,fun h0=>?_,fun _=>⟨nn,nn,_,h.cell 12 1 (by decide),fun h0=>⟨nn,nn,?_⟩,fun h0=>?_⟩⟩
  ·have h0:j=0:=h0
   omega
  ·have h0:st.again=0:=h0
   rw[if_pos h0]
   refine StT.at2 (off:=12) h.at_ (by simp[srow]) ⟨rfl,o,?_,h.own.put (h.own.apart fun cur hc=>?_) S.p0 _,hg.set S.pi.symm,h.cap,h.rng⟩
   ·rw[Mem.set_same];rfl
   ·rw[h.at_]at hc;cases hc
  ·have h0:¬st.again=0:=h0
   rw[if_neg h0]
   exact⟨rfl,o,h⟩
 ·have hno:kn st.order n=none:=by unfold kn;rw[if_neg hin]
  rw[hno]
  have hcap:=h.cap
  have hlt:=unS_lt (st:=st) hn hin (a:=st.again)
  refine⟨0,rfl,fun _=>⟨nn,nn,o,h.cell 10 1 (by decide),fun tb htb=>?_⟩,fun h0=>absurd rfl h0⟩
  have pne:∀cur,V p≠some (.cells cur 3 (0,0)):=fun cur hc=>by rw[h.at_]at hc;cases hc
  have ine:∀cur,V ib≠some (.cells cur 3 (0,0)):=fun cur hc=>by
   obtain⟨e1,c1,k1,-⟩:=hg.at_
   rw[k1]at hc;cases hc
  have m4:=(qAh S.mem).2.1
  have hown2:=(h.own.but).new htb (.cells #[.int .i64 n] 3 (0,0))
  refine qDb (s:=o) (u:=⟨some ⟨tb,0,none⟩,1,1⟩) (xs:=st.order) (ys:=[n]) rfl rfl hown2 (one_int mss) (by simp;omega) fun o2 V2 ho2=>⟨o2,rfl,nn,nn,?_⟩
  have hsub:=ho2.sub
  have hp2:V2 p=some (.cells (srow d m o ib st.again).toArray 253 (0,0)):=hsub _ _ (Mem.but_at h.at_ (h.own.apart pne))
  have hg2:qFE (Value.int .i64) V2 ib fun n=>(kn st.order n).map (Value.int .i64):=by
   obtain⟨e1,c1,k1,k2⟩:=hg.at_
   exact⟨e1,c1,hsub _ _ (Mem.but_at k1 (h.own.apart ine)),k2⟩
  have ho3:Sx.Own V0 V2 3 1 o2 ((st.order++[n]).flatMap qAd):=ho2.narrow h.own.sub_but
  refine StT.at2 (off:=10) hp2 (by simp[srow]) ?_
  obtain⟨V3,hV3⟩:∃V3,V3=V2.set p (.cells (srow d m o2 ib st.again).toArray 253 (0,0)):=⟨_,rfl⟩
  have hgoal:V2.set p (.cells ((srow d m o ib st.again).toArray.toList.take 10++[uL o2]++(srow d m o ib st.again).toArray.toList.drop (10+[uL o2].length)).toArray 253 (0,0))=V3:=hV3.symm
  have hp3:V3 p=some (.cells (srow d m o2 ib st.again).toArray 253 (0,0)):=by rw[hV3,Mem.set_same]
  have hg3:qFE (Value.int .i64) V3 ib fun n=>(kn st.order n).map (Value.int .i64):=by rw[hV3];exact hg2.set S.pi.symm
  have pne2:∀cur,V2 p≠some (.cells cur 3 (0,0)):=fun cur hc=>by rw[hp2]at hc;cases hc
  have ho4:Sx.Own V0 V3 3 1 o2 ((st.order++[n]).flatMap qAd):=by rw[hV3];exact ho3.put (ho3.apart pne2) S.p0 _
  show ¬_/\_
  rw[hgoal]
  refine⟨nn,nn,_,qAe hp3 11 1 (by simp[srow]),nn,nn,o2,qAe hp3 10 1 (by simp[srow]),qDw.key (k:=n) (qGb Tryz.underlying3) Tryz.underlying132 hg3 fun ob hob=>?_⟩
  have hn2:=ho4.n_eq (fun _=>rfl) (by decide)
  rw[List.length_append,List.length_singleton]at hn2
  have h5:SrAt V0 d m p ib (V3.set ib ob) ⟨st.order++[n],st.again⟩ o2:=by
   refine⟨by rw[Mem.set_ne S.pi];exact hp3,ho4.put (ho4.apart fun cur hc=>?_) S.i0 _,hob.congr fun x=>?_,?_,fun x hx=>?_⟩
   ·obtain⟨e1,c1,k1,-⟩:=hg3.at_
    rw[k1]at hc;cases hc
   ·rw[kn_new hin,show ((st.order.length:Int)+1)=(o2.n:Int) by omega]
    by_cases hx:x=n <;> simp[hx]
   ·show (st.order++[n]).length+_<=_
    rw[List.length_append,List.length_singleton];omega
   ·rcases List.mem_append.1 hx with hx|hx
    ·exact h.rng x hx
    ·rw[List.mem_singleton.1 hx];exact hn
  obtain⟨q,rfl⟩:∃q:Nat,n=(q:Int)+1:=⟨(n-1).toNat,by omega⟩
  have hmm:=S.mm.sub h5.own.sub
  have hdd:=S.ds.sub h5.own.sub
  have hnn:=hmm.nodes.n_eq
  obtain⟨x,hxm,hx,-,hl2,hpx,hzx,hrowx⟩:=hmm.nodes.get (i:=q) (by omega)
  have hty:=(qAh S.mem).2.2.1 x hxm
  obtain⟨c1,c2⟩:=of_decide_eq_true hty
  obtain⟨j,hj⟩:∃j:Nat,x.ty=(j:Int):=⟨_,(Int.toNat_of_nonneg c1).symm⟩
  have htn:=hdd.types.n_eq
  obtain⟨t,htm,ht,-,hl3,hpt3,hzt,hrowt⟩:=hdd.types.get (i:=j) (by omega)
  have hI:IR ((q:Int)):=⟨by omega,by have:=(hmm.nodes.succ (i:=q) (by omega)).2;omega⟩
  rw[show ((q:Int)+1-1)=(q:Int) by omega]
  refine⟨nn,nn,pnn,m.ns,h5.cell 9 1 (by decide),hI,hpx,hzx,by omega,_,_,hrowx,nn,nn,pnn,d.ts,h5.cell 1 1 (by decide),?_⟩
  rw[hj]
  have hfo:=qAS ht hj
  have hvals:=(qAh S.mem).2.2.2.2 x hxm
  rw[hfo]at hvals
  refine⟨hpt3,hzt,by omega,qAf hpt3,_,_,hrowt,Tri.mono (lookC (ih (unS m ⟨st.order++[(q:Int)+1],st.again⟩) (by omega)) (S.ds.typesOk t htm).fields (S.mm.nodesOk x hxm).rows hvals (f:=f) h5 (Nat.le_refl _) (by omega)) ?_⟩
  rintro _ V5 ⟨rfl,o5,h6⟩
  refine⟨rfl,rfl,o5,?_⟩
  have e:qDy d m (f+1) st ((q:Int)+1)=(tgt t.fields x.f).foldl (qDy d m f) ⟨st.order++[(q:Int)+1],st.again⟩:=by
   rw[qDy,if_neg hin]
   unfold qAx
   rw[show ((q:Int)+1-1).toNat=q by omega,hx]
   show (tgt (qAq d x.ty) x.f).foldl _ _=_
   rw[hfo]
  rw[e];exact h6
theorem entAll(S:SrS V0 d m p ib):∀N,EntC V0 d m p ib N:=fun N=>Nat.strongRecOn N fun N ih=>enterC S N ih
end
section
variable{V:Mem}{d:Ds}{m:Mm}
theorem c176(hmv:qAs d m=true)(hd:Ds.Ok V d)(hm:Mm.Ok V m):Tri Tryz.prog 176 #[d.v,m.v] V fun e V'=>∃p ib o,e=.returned (pv p)/\SrAt V d m p ib V' (qFR d m) o:=by
 refine x176 ?_
 unfold w176
 refine GenK.makeMap fun ib hib=>⟨some ib,rfl,fun p hp=>?_⟩
 have n1:p≠ib:=fun e=>by rw[e,Mem.set_same]at hp;cases hp
 have hp0:V p=none:=by rw[Mem.set_ne n1]at hp;exact hp
 have s1:=Mem.sub_new hib (.map #[] 0)
 have s2:=Mem.sub_new hp (.cells (srow d m ⟨none,0,0⟩ ib 0).toArray 253 (0,0))
 have S:SrS V d m p ib:=⟨hmv,hd,hm,hp0,hib,n1⟩
 have hu:unS m ⟨[],0⟩<=m.nodes.length:=qJU
 have h0:SrAt V d m p ib ((V.set ib (.map #[] 0)).set p (.cells (srow d m ⟨none,0,0⟩ ib 0).toArray 253 (0,0))) ⟨[],0⟩ ⟨none,0,0⟩ :=
  ⟨Mem.set_same _ _ _,Own.nil (s1.trans s2) _ _,(((qFE.made V ib).sub s2)).congr fun _=>rfl,by show 0+unS m ⟨[],0⟩<=_;omega,fun x h=>by simp at h⟩
 refine Tri.mono (lookC (entAll S m.nodes.length) hd.globals hm.globals (qAh hmv).2.2.2.1 (f:=m.nodes.length+1) h0 hu (by omega)) ?_
 rintro _ V2 ⟨rfl,o,h⟩
 exact⟨rfl,p,ib,o,rfl,h⟩
end
section
variable{V:Mem}{d:Ds}{m:Mm}
theorem Own.growS{V0 V V':Mem}{e:TypeId}{sz:Nat}{s:Sl}{vs:List Value}(h:Sx.Own V0 V e sz s vs)(hs:V.sub V'):Sx.Own V0 V' e sz s vs:=Own.moveB h (h.sub.trans hs) fun _ _ _ hg=>hs _ _ hg
theorem c13{s t:Sl}{xs ys:List Int}(h:qAc V s 1 (xs.map qAd))(k:qAc V t 1 (ys.map qAd)):PP 13 [.slice s.p s.n s.c,.slice t.p t.n t.c] V (.bool (decide (xs=ys))):=by
 refine x13 ?_
 unfold w13
 have n1:=h.n_eq
 have n2:=k.n_eq
 refine⟨fun hl=>?_,fun hl=>?_⟩
 ·refine qAJ (mk:=.bool) (b0:=false) xs.length (fun i V1=>V=V1/\xs.take i=ys.take i) ⟨rfl,rfl⟩ ?_
  rintro i b V1 J hi ⟨rfl,he⟩ hJ
  refine⟨fun hlt=>?_,fun hge=>?_⟩
  ·obtain⟨x,hxm,hx,-,hil,hp,hz,hrow⟩:=h.get hlt
   obtain⟨y,hym,hy,-,hjl,hp2,hz2,hrow2⟩:=k.get (i:=i) (by omega)
   refine⟨hp,hz,hlt,_,hrow,hp2,hz2,by omega,_,hrow2,fun hE=>⟨h.succ hlt,hJ hil _ _ ⟨rfl,take_eq he hx hy hE⟩⟩,fun hE=>?_⟩
   rw[decide_eq_false fun e=>?_]
   ·exact⟨rfl,rfl⟩
   ·rw[e,hy]at hx;cases hx;exact hE rfl
  ·have hd:=(h.done hge).2
   rw[List.take_of_length_le hd,List.take_of_length_le (by omega)]at he
   rw[decide_eq_true he];exact⟨rfl,rfl⟩
 ·rw[decide_eq_false fun e=>hl (by rw[n1,n2,e])];exact⟨rfl,rfl⟩
end
theorem loop3b{V:Mem}{β γ:Type}{mk:β->Value}{mc:γ->Value}{B:β->γ->Int->Mem->(List Value->Mem->Prop)->Prop}{b0:β}{c0:γ}(ib:∀x y,mk x=mk y->x=y)(ic:∀x y,mc x=mc y->x=y)(len:Nat)(St:Nat->β->γ->Mem->Prop)(h0:St 0 b0 c0 V)
  (step:∀(i:Nat) (b:β) (c:γ) V1 J,i<=len->St i b c V1->(i<len->∀b' c' V2,St (i+1) b' c' V2->J [mk b',mc c',.int .i64 ((i:Int)+1)] V2)->B b c (i:Int) V1 J) :
  ∃(I:Nat->List Value->Mem->Prop) (n0:Nat),I n0 [mk b0,mc c0,.int .i64 0] V/\∀n V1,∀b:β,∀c:γ,∀v:Int,I n [mk b,mc c,.int .i64 v] V1->∀J:List Value->Mem->Prop,(∀m ys V'',m<n->I m ys V''->J ys V'')->B b c v V1 J:=by
 refine⟨LI len fun i xs V=>∃b c,xs=[mk b,mc c,.int .i64 i]/\St i b c V,len,LI.start ⟨b0,c0,rfl,h0⟩,?_⟩
 rintro n V1 b c v ⟨i,rfl,hi,b',c',hx,hs⟩ J hJ
 simp only[List.cons.injEq,Value.int.injEq,true_and,and_true]at hx
 obtain⟨hb,hc,rfl⟩:=hx
 cases ib _ _ hb;cases ic _ _ hc
 exact step i b c V1 J hi hs fun hlt b' c' V2 h2=>LI.next hJ hlt ⟨b',c',rfl,h2⟩
theorem qHA{t:ByteArray}(h:t=qAW∨t=qAu):qBR t=true:=by
 unfold qBR
 rcases h with rfl|rfl <;> simp
section
variable{V0 V:Mem}{d:Ds}{m:Mm}
theorem c177{s:Sl}{l:List Int}(h:qAc V s 1 (l.map qAd)){x:Int}:PP 177 [s.v,.int .i64 x] V (.int .i64 (posI l x)):=by
 refine x177 ?_
 unfold w177
 refine qAJ (mk:=.int .i64) (b0:=0) l.length (fun j V1=>V=V1/\qBd (fun y:Int=>!decide (y=x)) l j) ⟨rfl,qBd.zero _ _⟩ ?_
 rintro j b V1 J hj ⟨rfl,ha⟩ hJ
 refine⟨fun hlt=>?_,fun hge=>?_⟩
 ·obtain⟨y,hym,hy,-,hjl,hp,hz,hrow⟩:=h.get hlt
  refine⟨hp,hz,hlt,_,hrow,fun hE=>?_,fun hE=>⟨h.succ hlt,hJ hjl _ _ ⟨rfl,qFo ha hy (decide_eq_false hE)⟩⟩⟩
  have e:posI l x=(j:Int):=by unfold posI;exact qGK ha hy (decide_eq_true hE)
  rw[e];exact⟨rfl,rfl⟩
 ·have e:posI l x=-1:=by unfold posI;exact qIx ha (h.done hge).2
  rw[e];exact⟨rfl,rfl⟩
theorem pos_neg{l:List Int}{x:Int}:¬(0<=posI l x)↔¬x∈l:=by
 unfold posI
 rcases qBv (fun y=>decide (y=x)) l with⟨h1,-,h2⟩|⟨i,y,h1,h2,-,h3,h4,-⟩
 ·rw[h1]
  refine⟨fun _ hx=>?_,fun _=>by decide⟩
  rw[List.any_eq_false]at h2
  exact absurd (decide_eq_true rfl) (h2 x hx)
 ·rw[h1]
  have e:y=x:=of_decide_eq_true h4
  exact⟨fun h=>absurd (Int.natCast_nonneg _) h,fun h=>absurd (e ▸ List.mem_of_getElem? h2) h⟩
theorem tgtI_in{xs:List Fld}{vs:List Int}(h:qAg d m xs vs=true){i:Nat}:∀y∈qJX xs vs i,1<=y/\y<=(m.nodes.length:Int):=fun y hy=>by
 have:y∈tgt xs vs:=by
  unfold qJX at hy;unfold tgt
  obtain⟨a,ha,rfl⟩:=List.mem_map.1 hy
  obtain⟨h1,h2⟩:=List.mem_filter.1 ha
  exact List.mem_map.2 ⟨a,List.mem_filter.2 ⟨List.mem_of_mem_take h1,h2⟩,rfl⟩
 obtain⟨j,f,h1,h2,h3,h4⟩:=tgt_mem.1 this
 exact qJw h h1 h2 h3 h4
def LookRP(V0:Mem)(st:Sr):Ending->Mem->Prop:=fun e V'=>∃s:Sl,e=.returned (.agg #[s.v,.int .i64 st.again])/\Sx.Own V0 V' 3 1 s (st.order.flatMap qAd)
variable(V0 d m) in
def LookRC(N:Nat):Prop:=∀(st:Sr) (f:Nat) V (s l q:Sl) (xs:List Fld) (vs:List Int),unS m st<=N->unS m st<f->st.order.length+unS m st<=m.nodes.length->qAc V0 l 2 (xs.map Fld.row)->qAc V0 q 1 (vs.map qAd)->qAg d m xs vs=true->Sx.Own V0 V 3 1 s (st.order.flatMap qAd) ->
 Tri Tryz.prog 135 #[d.v,m.v,.agg #[s.v,.int .i64 st.again],l.v,q.v] V (LookRP V0 (lookP d m f st xs vs))
theorem lookRC(hmv:qAs d m=true)(hd:Ds.Ok V0 d)(hm:Mm.Ok V0 m)(N:Nat)(ih:∀N',N'<N->LookRC V0 d m N'):LookRC V0 d m N:=by
 intro st f V s l q xs vs hN hf hcap hl hq hv ho
 refine Tri.mono (x135 (R:=LookRP V0 (lookP d m f st xs vs)) ?_) fun _ _ h=>h
 unfold w135
 have hlen:xs.length=vs.length:=by
  unfold qAg at hv
  rw[Bool.and_eq_true,decide_eq_true_eq]at hv
  exact hv.1
 have m4:=(qAh hmv).2.1
 refine loop3b (mk:=fun s:Sl=>.slice s.p s.n s.c) (mc:=.int .i64) (b0:=s) (c0:=st.again) qBk qEZ xs.length (fun i s1 a V1=>a=((qJX xs vs i).foldl (qDy d m f) st).again/\Sx.Own V0 V1 3 1 s1 (((qJX xs vs i).foldl (qDy d m f) st).order.flatMap qAd)) ⟨rfl,ho⟩ ?_
 rintro i s1 a V1 J hi ⟨rfl,h1⟩ hJ
 obtain⟨sti,hsti⟩:∃sti,sti=(qJX xs vs i).foldl (qDy d m f) st:=⟨_,rfl⟩
 rw[<- hsti]at h1 ⊢
 have hu:unS m sti<=unS m st:=by rw[hsti];exact unS_le fun z hz=>foldP_sub d m f z _ _ hz
 have hcl:Cl d m st sti:=by rw[hsti];exact(qKJ (ent_cl hmv f) (qJX xs vs i) st (tgtI_in hv) hf).1
 have hcap1:=hcl.cap hcap
 have hl1:=hl.sub h1.sub
 have hq1:=hq.sub h1.sub
 refine⟨fun hlt=>?_,fun hge=>?_⟩
 ·obtain⟨x,hxm,hx,-,hil,hp,hz,hrow⟩:=hl1.get hlt
  have n1:=hl1.n_eq
  have n2:=hq1.n_eq
  obtain⟨y,hym,hy,-,hjl,hpy,hzy,hrowy⟩:=hq1.get (i:=i) (by omega)
  have same:qCw (x,y)=false->J [.slice s1.p s1.n s1.c,.int .i64 sti.again,.int .i64 ((i:Int)+1)] V1:=fun hr=>by
   refine hJ hil s1 sti.again V1 ?_
   rw[qDA hx hy,hr,if_neg (by decide),List.append_nil,<- hsti];exact⟨rfl,h1⟩
  have pl:qBR x.ty=true->qCw (x,y)=false:=fun h=>by unfold qCw;rw[show qBR x.ty=true from h];rfl
  refine⟨hpy,hzy,by omega,_,hrowy,hp,hz,hlt,qAf hp,_,_,hrow,fun h2=>⟨hl1.succ hlt,same (pl ?_)⟩,fun h2=>⟨hp,hz,hlt,qAf hp,_,_,hrow,fun h3=>⟨hl1.succ hlt,same (pl ?_)⟩,fun h3=>⟨fun h4=>⟨hl1.succ hlt,same ?_⟩,fun h4=>?_⟩⟩⟩
  ·have h2:x.ty=qAW:=h2
   unfold qBR;simp[h2]
  ·have h3:x.ty=qAu:=h3
   unfold qBR;simp[h3]
  ·have h4:y=0:=h4
   unfold qCw;rw[h4];simp
  have hpl:qBR x.ty=false:=by
   have h2:¬x.ty=qAW:=h2
   have h3:¬x.ty=qAu:=h3
   unfold qBR;simp[h2,h3]
  have h4:¬y=0:=h4
  have hr:qCw (x,y)=true:=by unfold qCw;rw[hpl,decide_eq_true h4];rfl
  have hy1:=qJw hv hx hy hpl h4
  have next:∀(s':Sl) V2,Sx.Own V0 V2 3 1 s' ((qDy d m f sti y).order.flatMap qAd)->J [.slice s'.p s'.n s'.c,.int .i64 (qDy d m f sti y).again,.int .i64 ((i:Int)+1)] V2:=fun s' V2 h=>by
   refine hJ hil s' _ V2 ?_
   rw[qDA hx hy,hr,if_pos rfl,List.foldl_append,List.foldl_cons,List.foldl_nil,<- hsti]
   exact⟨rfl,h⟩
  obtain⟨f,rfl⟩:∃f',f=f'+1:=⟨f-1,by omega⟩
  refine(c177 (h1.rows (fun _=>rfl) (by decide))).call ⟨_,rfl,fun h5=>?_,fun h5=>?_⟩
  ·have hin:y∈sti.order:=Classical.not_not.1 fun h=>pos_neg.2 h h5
   have e:qDy d m (f+1) sti y=⟨sti.order,if sti.again=0 then y else sti.again⟩:=by unfold qDy;rw[if_pos hin]
   rw[e]at next
   refine⟨fun h6=>⟨hl1.succ hlt,?_⟩,fun h6=>⟨hl1.succ hlt,?_⟩⟩
   ·have h6:sti.again=0:=h6
    rw[if_pos h6]at next
    exact next s1 V1 h1
   ·have h6:¬sti.again=0:=h6
    rw[if_neg h6]at next
    exact next s1 V1 h1
  ·have hin:¬y∈sti.order:=pos_neg.1 h5
   have hlt2:=unS_lt (st:=sti) hy1 hin (a:=sti.again)
   intro tb htb
   refine qDb (s:=s1) (u:=⟨some ⟨tb,0,none⟩,1,1⟩) (xs:=sti.order) (ys:=[y]) rfl rfl (h1.but.new htb (.cells #[.int .i64 y] 3 (0,0))) (one_int mss) (by simp;omega) fun o2 V2 ho2=>⟨o2,rfl,?_⟩
   have ho3:Sx.Own V0 V2 3 1 o2 ((sti.order++[y]).flatMap qAd):=ho2.narrow h1.sub_but
   obtain⟨k,rfl⟩:∃k:Nat,y=(k:Int)+1:=⟨(y-1).toNat,by omega⟩
   have hmm:=hm.sub ho3.sub
   have hdd:=hd.sub ho3.sub
   have hnn:=hmm.nodes.n_eq
   obtain⟨z,hzm,hz',-,hl2,hpx,hzx,hrowx⟩:=hmm.nodes.get (i:=k) (by omega)
   obtain⟨c1,c2⟩:=of_decide_eq_true ((qAh hmv).2.2.1 z hzm)
   obtain⟨j,hj⟩:∃j:Nat,z.ty=(j:Int):=⟨_,(Int.toNat_of_nonneg c1).symm⟩
   have htn:=hdd.types.n_eq
   obtain⟨t,htm,ht,-,hl3,hpt3,hzt,hrowt⟩:=hdd.types.get (i:=j) (by omega)
   have hI:IR ((k:Int)):=⟨by omega,by have:=(hmm.nodes.succ (i:=k) (by omega)).2;omega⟩
   have hfo:=qAS ht hj
   have hvals:=(qAh hmv).2.2.2.2 z hzm
   rw[hfo]at hvals
   rw[show ((k:Int)+1-1)=(k:Int) by omega]
   refine⟨hI,hpx,hzx,by omega,qAf hpx,_,_,hrowx,?_⟩
   rw[hj]
   refine⟨hpt3,hzt,by omega,qAf hpt3,_,_,hrowt,hI,hpx,hzx,by omega,qAf hpx,_,_,hrowx,?_⟩
   refine Tri.mono (ih (unS m ⟨sti.order++[(k:Int)+1],sti.again⟩) (by omega) ⟨sti.order++[(k:Int)+1],sti.again⟩ f V2 o2 t.fs z.sl t.fields z.f (Nat.le_refl _) (by omega) ?_ (hd.typesOk t htm).fields (hm.nodesOk z hzm).rows hvals ho3) ?_
   ·show (sti.order++[(k:Int)+1]).length+_<=_
    rw[List.length_append,List.length_singleton];omega
   rintro _ V5 ⟨s5,rfl,h6⟩
   have e:qDy d m (f+1) sti ((k:Int)+1)=lookP d m f ⟨sti.order++[(k:Int)+1],sti.again⟩ t.fields z.f:=by
    rw[qDy,if_neg hin]
    unfold qAx lookP
    rw[show ((k:Int)+1-1).toNat=k by omega,hz']
    show (tgt (qAq d z.ty) z.f).foldl _ _=_
    rw[hfo]
   rw[<- e]at h6 ⊢
   exact⟨_,_,rfl,hl1.succ hlt,next s5 V5 h6⟩
 ·have hdn:=(hl1.done hge).2
  rw[qHu hdn]at hsti
  have e:lookP d m f st xs vs=sti:=hsti.symm
  rw[e]
  exact⟨s1,rfl,h1⟩
theorem c87(hmv:qAs d m=true)(hd:Ds.Ok V d)(hm:Mm.Ok V m):Tri Tryz.prog 87 #[d.v,m.v] V (LookRP V (qFR d m)):=by
 refine Tri.mono (x87 (R:=LookRP V (qFR d m)) ?_) fun _ _ h=>h
 unfold w87
 have hu:=qJU (m:=m)
 have all:∀N,LookRC V d m N:=fun N=>Nat.strongRecOn N fun N ih=>lookRC hmv hd hm N ih
 refine Tri.mono (all m.nodes.length ⟨[],0⟩ (m.nodes.length+1) V ⟨none,0,0⟩ d.gs m.gs d.globals m.globals hu (by omega) (by show 0+_<=_;omega) hd.globals hm.globals (qAh hmv).2.2.2.1 (Own.nil (Mem.sub.refl V) _ _)) ?_
 rintro _ V2 ⟨s,rfl,h⟩
 exact⟨_,_,rfl,s,rfl,h⟩
end
section
variable{V:Mem}{d:Ds}{m:Mm}
theorem qKz(h:qAz d=true):d.globals.length<=8/\∀t∈d.types,t.fields.length<=12:=by
 unfold qAz at h
 simp only[Bool.and_eq_true,List.all_eq_true]at h
 obtain⟨⟨⟨⟨⟨h1,h2⟩,-⟩,hT⟩,-⟩,hF⟩:=h
 have hg:=h1.2
 unfold qCU at hg
 rw[Bool.and_eq_true,decide_eq_true_eq]at hg
 refine⟨by have:=hg.1;omega,fun t ht=>?_⟩
 have:=hT t ht
 unfold tyB qCU at this
 simp only[Bool.and_eq_true,decide_eq_true_eq]at this
 have:=this.2.1
 omega
theorem qJm{l:List Fld}{vs:List Int}(h:qAg d m l vs=true):l.length=vs.length:=by
 unfold qAg at h
 rw[Bool.and_eq_true,decide_eq_true_eq]at h
 exact h.1
end
section
variable{V:Mem}{d:Ds}{m:Mm}
theorem c132[Tab V](hmv:qAs d m=true)(hd:Ds.Ok V d)(hm:Mm.Ok V m):Tri Tryz.prog 132 #[d.v,m.v] V fun e V'=>∃o:Sl,e=.returned (.tuple #[.slice o.p o.n o.c,.int .i64 0])/\Sx.Own V V' 3 1 o ((qFR d m).order.flatMap qAd):=by
 refine x132 ?_
 unfold w132
 refine(c44 hd hm).call ⟨_,rfl,fun _=>Tri.mono (c176 hmv hd hm) ?_,fun h=>absurd hmv h⟩
 rintro _ V2 ⟨p,ib,o,rfl,h⟩
 exact⟨_,rfl,nn,nn,o,h.cell 10 1 (by decide),o,rfl,h.own⟩
end
theorem keys_len:∀(es:List MapEntry) (c:List Int),(∀e∈es,∃a,e.key=Value.int .i64 a)->es.Pairwise (fun e f=>e.key≠f.key)->c.Nodup->(∀a,(qDW es (.int .i64 a)).isSome=decide (a∈c))->es.length=c.length:=fun es c hk hd hc hl=>by
 have h1:∃ks:List Int,ks.map (Value.int .i64)=es.map (·.key):=by
  clear hd hl
  induction es with
  | nil=>exact⟨[],rfl⟩
  | cons e es ih =>
   obtain⟨ks,h⟩:=ih fun x hx=>hk x (by simp[hx])
   obtain⟨a,ha⟩:=hk e (by simp)
   exact⟨a::ks,by rw[List.map_cons,List.map_cons,h,ha]⟩
 obtain⟨ks,has⟩:=h1
 have hnd:ks.Nodup:=by
  have h2:=pair_keys.1 hd
  rw[<- has,List.pairwise_map]at h2
  exact h2.imp fun h e=>h (by rw[e])
 have hmem:∀a,a∈ks↔a∈c:=fun a=>by
  have h3:=hl a
  have h4:a∈ks↔∃e∈es,e.key=Value.int .i64 a:=by
   have:Value.int .i64 a∈ks.map (Value.int .i64)↔Value.int .i64 a∈es.map (·.key):=by rw[has]
   rw[List.mem_map,List.mem_map]at this
   constructor
   ·intro h;exact this.1 ⟨a,h,rfl⟩
   ·intro h;obtain⟨b,hb,e⟩:=this.2 h;cases e;exact hb
  rw[h4]
  have h5:(qDW es (.int .i64 a)).isSome=true↔∃e∈es,e.key=Value.int .i64 a:=by
   unfold qDW
   rw[Option.isSome_map,List.find?_isSome]
   simp
  rw[<- h5,h3,decide_eq_true_eq]
 have e1:es.length=ks.length:=by
  have:=congrArg List.length has
  simpa using this.symm
 have a1:=nodup_le ks c hnd fun x hx=>(hmem x).1 hx
 have a2:=nodup_le c ks hc fun x hx=>(hmem x).2 hx
 omega
theorem GenK.lenMap{P:Program}{V:Mem}{b:Nat}{f:Int->Option Value}{c:List Int}{t kt et ty:TypeId}(ht:P.underlying t=some (.map kt et))(hm:qFE (Value.int .i64) V b f)(hc:c.Nodup)(hd:∀a,(f a).isSome=decide (a∈c)){x:Operand}{vals:Operand->Value}(hx:vals x=.map (some b)){q:Value->Mem->Prop}(hq:q (.int .i64 c.length) V) :
  GenK P (.call { callee:=.builtin .len,args:=#[x],argTypes:=#[t] }) ty vals V q:=by
 intro w hw
 obtain⟨es,cl,h1,h2,h3,h4⟩:=hm.at_
 have hlen:=keys_len es.toList c h2 h3 hc fun a=>by rw[h4];exact hd a
 refine⟨_,w,V,?_,Frm.refl hw,hq⟩
 unfold execOp
 simp only[resolve,invoke,builtin,Sem.run_bind,Sem.run_pure,Result.andThen_ok,List.map_toArray,List.map_cons,List.map_nil,hx,Builtin.len_]
 simp only[List.getElem?_toArray,List.getElem?_cons_zero,Sem.run_bind,run_underlying ht,Result.andThen_ok,MapKept.run_getObj_map (hw _ _ h1),Sem.run_pure]
 rw[<- hlen]
 simp[goInt]
section
variable{V0 V:Mem}{p k n:Nat}{c:List Int}{b:Int}
theorem c63(h:CaAt p k c n V0 V)(hk:1<=k/\k<=1000)(hb:0<=b/\b<=1048576)(hn:n<2147483648):Tri Tryz.prog 63 #[pv p,.int .i64 b] V fun e V'=>e=.returned (.tuple #[.bool (decide (b∈c)),.int .i64 0])/\CaAt p k (tch k c b) (n+if b∈c then 0 else 1) V0 V':=by
 obtain⟨mb,S,B,N,P,L,f,h,hI⟩:=h
 obtain⟨R,hR⟩:∃R:Ending->Mem->Prop,R=fun e V'=>e=.returned (.tuple #[.bool (decide (b∈c)),.int .i64 0])/\CaAt p k (tch k c b) (n+if b∈c then 0 else 1) V0 V':=⟨_,rfl⟩
 rw[<- hR]
 refine x63 ?_
 unfold w63
 refine⟨fun h=>absurd h nn,fun _=>⟨fun h=>absurd hb.1 (Int.not_le.2 h),fun _=>⟨fun h=>absurd hb.2 (Int.not_le.2 h),fun _=>⟨nn,nn,_,h.cell 2 1 (by decide),?_⟩⟩⟩⟩
 refine qBs.key2 (k:=b) (qGb Tryz.underlying3) Tryz.underlying132 qFh h.mp ?_
 have hNl:=hI.nl
 have hPl:=hI.pl
 have hBl:=hI.bl
 by_cases hbc:b∈c
 ·-- a hit
  obtain⟨i,s,hci,hLi,hfb⟩:=hI.hit hbc
  obtain⟨pr,nx,k1,k2,k3,k4,k5⟩:=hI.around hLi
  have hsr:=hI.rng s (List.mem_of_getElem? hLi)
  rw[hfb]
  refine⟨s,true,rfl,fun _=>?_,fun h=>absurd rfl h⟩
  refine Tri.mono (c99 h k1 k2 (by omega) (by omega)) ?_
  rintro _ V1 ⟨rfl,h1⟩
  refine⟨rfl,fun _=>?_,fun h=>absurd rfl h⟩
  obtain⟨q,hq,hql⟩:∃q:Nat,(N.set pr nx)[0]?=some (q:Int)/\q<B.length:=by
   by_cases e:pr=0
   ·subst e
    exact⟨nx,by rw[List.getElem?_set_self (by omega)],k4⟩
   ·obtain⟨q,h1,h2⟩:=hI.head
    exact⟨q,by rw[List.getElem?_set_ne e];exact h1,h2⟩
  refine Tri.mono (c100 h1 hq (by rw[List.length_set];omega) (by rw[List.length_set];omega) (by rw[List.length_set];omega) (by omega)) ?_
  rintro _ V2 ⟨rfl,h2⟩
  refine⟨rfl,?_⟩
  rw[hR,decide_eq_true hbc,if_pos hbc]
  refine⟨rfl,mb,S,B,_,_,s::(L.take i++L.drop (i+1)),f,h2,?_⟩
  unfold tch
  rw[if_pos hbc]
  exact hI.touch hci hLi k5 hq
 ·-- a miss
  have hfb:=hI.no b hbc
  rw[hfb]
  refine⟨0,false,rfl,?_⟩
  refine⟨fun h=>absurd h (by decide),fun _=>⟨nn,nn,_,h.cell 2 1 (by decide),nn,nn,_,h.cell 0 1 (by decide),?_⟩⟩
  refine GenK.lenMap Tryz.underlying132 h.mp hI.cn (fun a=>by rw[Option.isSome_map];exact hI.dec) rfl ?_
  have hcap:=hI.cap
  have hR':R=fun e V'=>e=.returned (.tuple #[.bool false,.int .i64 0])/\CaAt p k (b::c.take (k-1)) (n+1) V0 V':=by
   rw[hR];unfold tch
   rw[decide_eq_false hbc,if_neg hbc,if_neg hbc]
  refine⟨_,rfl,qAM h.at_ 0 0 1 (by simp[crow]),nn,nn,fun hlt=>?_,fun hge=>?_⟩
  ·have hlk:c.length<k:=by have hlt:(c.length:Int)<(k:Int):=hlt;omega
   obtain⟨q,hq,hql⟩:=hI.head
   have hSn:=(h.bo.rows (row:=qAd) (xs:=B) (fun _=>rfl) (by decide)).n_eq
   have hB1:B.length<=1001:=by have:=hI.cl;omega
   have one:∀{U:Mem} {t:Nat} {x:Int},U t=none->qAc (U.set t (.cells #[.int .i64 x] 3 (0,0))) ⟨some ⟨t,0,none⟩,1,1⟩ 1 ([x].map qAd):=fun {U t x} ht=>qAc.cells (xs:=[x]) (row:=qAd) mss rfl (fun _=>rfl) rfl (by simp)
   refine⟨nn,nn,_,h.cell 3 1 (by decide),nn,nn,_,h.cell 3 1 (by decide),nn,nn,_,h.cell 4 1 (by decide),nn,nn,_,h.cell 5 1 (by decide),?_⟩
   rw[show (S.b.n:Int)=((B.length:Nat):Int) by rw[hSn]]
   repeat' apply And.intro
   all_goals first
    | exact nn
    | exact qAM h.at_ 3 0 1 (by simp[crow])
    | exact qAM h.at_ 4 0 1 (by simp[crow])
    | exact qAM h.at_ 5 0 1 (by simp[crow])
    | skip
   all_goals
    intro b1 hb1
    refine qDb (s:=S.b) (xs:=B) (ys:=[b]) rfl rfl (h.bo.but.new hb1 _) (one hb1) (by simp;omega) fun s1 V3 o1=>⟨s1,rfl,?_⟩
    have h3:=h.pushB o1
    repeat' apply And.intro
    all_goals first
     | exact nn
     | exact qAM h3.at_ 4 0 1 (by simp[crow])
     | exact qAM h3.at_ 5 0 1 (by simp[crow])
     | skip
    all_goals
     intro b2 hb2
     refine qDb (s:=S.n) (xs:=N) (ys:=[0]) rfl rfl (h3.no.but.new hb2 _) (one hb2) (by simp;omega) fun s2 V5 o2=>⟨s2,rfl,?_⟩
     have h5:=h3.pushN o2
     repeat' apply And.intro
     all_goals first
      | exact nn
      | exact qAM h5.at_ 5 0 1 (by simp[crow])
      | skip
     intro b3 hb3
     refine qDb (s:=S.p) (xs:=P) (ys:=[0]) rfl rfl (h5.po.but.new hb3 _) (one hb3) (by simp;omega) fun s3 V7 o3=>⟨s3,rfl,?_⟩
     have h7:=h5.pushP o3
     refine⟨nn,nn,StT.at2 (off:=3) h7.at_ (by simp[crow]) ?_⟩
     have h8:=h7.fields ⟨s1,S.n,S.p⟩
     refine⟨nn,nn,StT.at2 (off:=4) h8.at_ (by simp[crow]) ?_⟩
     have h9:=h8.fields ⟨s1,s2,S.p⟩
     refine⟨nn,nn,StT.at2 (off:=5) h9.at_ (by simp[crow]) ⟨fun h=>absurd h (by decide),fun _=>?_⟩⟩
     have h10:=h9.fields ⟨s1,s2,s3⟩
     refine⟨nn,nn,_,h10.cell 1 1 (by decide),⟨by omega,by omega⟩,nn,nn,StT.at2 (off:=1) h10.at_ (by simp[crow]) ?_⟩
     have h11:=h10.put ((n:Int)+1)
     refine⟨nn,nn,_,h11.cell 2 1 (by decide),qDw.key (k:=b) (qGb Tryz.underlying3) Tryz.underlying132 h11.mp fun om hom=>?_⟩
     have h12:=h11.map (g:=fun x=>if x=b then some ((B.length:Nat):Int) else f x) (hom.congr fun x=>by by_cases e:x=b <;> simp[e])
     refine Tri.mono (c100 h12 (s:=B.length) (q:=q) (by rw[List.getElem?_append_left (List.getElem?_eq_some_iff.1 hq).1];exact hq) (by rw[List.length_append,List.length_singleton];omega) (by rw[List.length_append,List.length_singleton];omega) (by rw[List.length_append,List.length_singleton];omega) (by omega)) ?_
     rintro _ V13 ⟨rfl,h13⟩
     refine⟨rfl,?_⟩
     rw[hR']
     refine⟨rfl,mb,⟨s1,s2,s3⟩,B++[b],_,_,B.length::L,_,h13,?_⟩
     rw[List.take_of_length_le (by omega)]
     exact hI.room hbc hlk (by rw[List.getElem?_append_left (List.getElem?_eq_some_iff.1 hq).1];exact hq)
  ·have hlk:c.length=k:=by have hge:¬(c.length:Int)<(k:Int):=hge;omega
   obtain⟨s,pr,nx,o,k1,k2,k3,k4,k5,k6,k7,k8,k9⟩:=hI.full hbc hk.1 hlk
   obtain⟨p1,p2,p3,p4⟩:=qCj (h.po.rows (fun _=>rfl) (by decide)) k1
   refine⟨nn,nn,_,h.cell 5 1 (by decide),p1,p2,p3,_,p4,Tri.mono (c99 h k5 k6 (by omega) (by omega)) ?_⟩
   rintro _ V2 ⟨rfl,h2⟩
   obtain⟨b1,b2,b3,b4⟩:=qCj (h2.bo.rows (fun _=>rfl) (by decide)) k4
   refine⟨rfl,nn,nn,_,h2.cell 2 1 (by decide),nn,nn,_,h2.cell 3 1 (by decide),b1,b2,b3,_,b4,GenK.delete (k:=o) (qGb Tryz.underlying3) Tryz.underlying132 h2.mp rfl rfl fun om hom=>?_⟩
   have h3:=h2.map (g:=fun x=>if x=o then none else f x) (hom.congr fun x=>by by_cases e:x=o <;> simp[e])
   refine⟨rfl,nn,nn,_,h3.cell 3 1 (by decide),b1,b2,b3,h3.setB k3 fun V4 h4=>⟨fun h=>absurd h (by decide),fun _=>?_⟩⟩
   refine⟨nn,nn,_,h4.cell 1 1 (by decide),⟨by omega,by omega⟩,nn,nn,StT.at2 (off:=1) h4.at_ (by simp[crow]) ?_⟩
   have h5:=h4.put ((n:Int)+1)
   refine⟨nn,nn,_,h5.cell 2 1 (by decide),qDw.key (k:=b) (qGb Tryz.underlying3) Tryz.underlying132 h5.mp fun om2 hom2=>?_⟩
   have h6:=h5.map (g:=fun x=>if x=b then some (s:Int) else if x=o then none else f x) (hom2.congr fun x=>by by_cases e:x=b <;> simp[e])
   obtain⟨q,hq,hql⟩:∃q:Nat,(N.set pr nx)[0]?=some (q:Int)/\q<B.length:=by
    by_cases e:pr=0
    ·subst e
     exact⟨nx,by rw[List.getElem?_set_self (by omega)],k8⟩
    ·obtain⟨q,h1,h2⟩:=hI.head
     exact⟨q,by rw[List.getElem?_set_ne e];exact h1,h2⟩
   refine Tri.mono (c100 h6 hq (by rw[List.length_set];omega) (by rw[List.length_set];omega) (by rw[List.length_set];omega) (by omega)) ?_
   rintro _ V7 ⟨rfl,h7⟩
   refine⟨rfl,?_⟩
   rw[hR']
   exact⟨rfl,mb,S,_,_,_,s::L.take (k-1),_,h7,k9 q hq⟩
end
end Go.Proofs
namespace Go.Proofs
def lastS(a:Int×Nat)(x:Int):Int×Nat:=if a.1<x then (x,1) else if x=a.1 then (a.1,a.2+1) else a
def qCa(l:List Int):Int×Nat:=l.foldl lastS (-1,0)
theorem qJI(l:List Int)(x:Int):qCa (l++[x])=lastS (qCa l) x:=by unfold qCa;rw[List.foldl_append];rfl
theorem qKd{p:List Int->Prop}(h0:p [])(h:∀l x,p l->p (l++[x]))(l:List Int):p l:=by
 have:∀n,∀l:List Int,l.length=n->p l:=by
  intro n
  induction n with
  | zero=>intro l hl;rw[List.length_eq_zero_iff.1 hl];exact h0
  | succ n ih =>
   intro l hl
   have hne:l≠[]:=by intro e;rw[e]at hl;cases hl
   rw[<- List.dropLast_concat_getLast hne]
   exact h _ _ (ih _ (by rw[List.length_dropLast];omega))
 exact this _ l rfl
theorem qDF(l:List Int):(∀x∈l,x<=(qCa l).1)/\-1<=(qCa l).1/\((qCa l).1=-1∨(qCa l).1∈l)/\((∀x∈l,0<=x)->(qCa l).2=l.count (qCa l).1):=by
 induction l using qKd with
 | h0=>exact⟨by simp,by decide,.inl rfl,fun _=>rfl⟩
 | h l x ih =>
  obtain⟨h1,h2,h3,h4⟩:=ih
  rw[qJI]
  unfold lastS
  by_cases c1:(qCa l).1<x
  ·rw[if_pos c1]
   refine⟨fun y hy=>?_,by show (-1:Int)<=x;omega,.inr (by simp),fun _=>?_⟩
   ·rcases List.mem_append.1 hy with hy|hy
    ·have:=h1 y hy;show y<=x;omega
    ·rw[List.mem_singleton.1 hy];exact Int.le_refl _
   ·show 1=(l++[x]).count x
    have:x ∉ l:=fun hx=>by have:=h1 x hx;omega
    rw[List.count_append,List.count_eq_zero_of_not_mem this];simp
  ·rw[if_neg c1]
   by_cases c2:x=(qCa l).1
   ·rw[if_pos c2]
    refine⟨fun y hy=>?_,h2,.inr (by show (qCa l).1∈_;rw[c2];simp),fun h0=>?_⟩
    ·rcases List.mem_append.1 hy with hy|hy
     ·exact h1 y hy
     ·rw[List.mem_singleton.1 hy];show x<=_;omega
    ·show (qCa l).2+1=(l++[x]).count (qCa l).1
     rw[List.count_append,h4 fun y hy=>h0 y (by simp[hy]),c2];simp
   ·rw[if_neg c2]
    refine⟨fun y hy=>?_,h2,h3.imp id fun h=>by simp[h],fun h0=>?_⟩
    ·rcases List.mem_append.1 hy with hy|hy
     ·exact h1 y hy
     ·rw[List.mem_singleton.1 hy];omega
    ·rw[List.count_append,h4 fun y hy=>h0 y (by simp[hy])]
     simp[c2]
def qCx(l:List Int)(size:Int):Int:=if (qCa l).1<0∨((qCa l).2:Int)=size then (qCa l).1+1 else (qCa l).1
structure Plc (l:List Int) (size:Int):Prop where
 rng:∀b∈l,0<=b/\b<4096
 cnt:∀b∈l,(l.count b:Int)<=size
theorem Plc.nil{size:Int}:Plc [] size:=⟨by simp,by simp⟩
theorem Plc.snoc{l:List Int}{size b:Int}(h:Plc l size)(h1:0<=b/\b<4096)(h2:((l++[b]).count b:Int)<=size):Plc (l++[b]) size:=by
 refine⟨fun x hx=>?_,fun x hx=>?_⟩
 ·rcases List.mem_append.1 hx with hx|hx
  ·exact h.rng x hx
  ·rw[List.mem_singleton.1 hx];exact h1
 ·by_cases e:x=b
  ·rw[e];exact h2
  ·rcases List.mem_append.1 hx with hx|hx
   ·have:=h.cnt x hx
    rw[List.count_append,List.count_eq_zero_of_not_mem (a:=x) (l:=[b]) (by simpa using e)]
    exact this
   ·exact absurd (List.mem_singleton.1 hx) e
structure Pl0 (l:List Int) (size:Int):Prop where
 lo:∀b∈l,0<=b
 cnt:∀b∈l,(l.count b:Int)<=size
theorem Plc.pl0{l:List Int}{size:Int}(h:Plc l size):Pl0 l size:=⟨fun b hb=>(h.rng b hb).1,h.cnt⟩
theorem furth_eq{l:List Int}{size M:Int}{n:Nat}(h:Pl0 l size)(hM:M∈l)(hmax:∀x∈l,x<=M)(hn:n=l.count M):qCx l size=if (n:Int)<size then M else M+1:=by
 obtain⟨h1,h2,h3,h4⟩:=qDF l
 have h0:=h.lo M hM
 have e:(qCa l).1=M:=by
  have a:=h1 M hM
  rcases h3 with h3|h3
  ·omega
  ·have:=hmax _ h3;omega
 have e2:=h4 h.lo
 rw[e,<- hn]at e2
 have hc:=h.cnt M hM
 rw[<- hn]at hc
 unfold qCx
 rw[e,e2]
 by_cases c:(n:Int)<size
 ·rw[if_neg (by omega),if_pos c]
 ·rw[if_pos (by omega),if_neg c]
theorem furth_lo(l:List Int)(size:Int):0<=qCx l size:=by
 obtain⟨h1,h2,h3,h4⟩:=qDF l
 unfold qCx
 split <;> omega
theorem Pl0.snoc{l:List Int}{size b:Int}(h:Pl0 l size)(h1:0<=b)(h2:((l++[b]).count b:Int)<=size):Pl0 (l++[b]) size:=by
 refine⟨fun x hx=>?_,fun x hx=>?_⟩
 ·rcases List.mem_append.1 hx with hx|hx
  ·exact h.lo x hx
  ·rw[List.mem_singleton.1 hx];exact h1
 ·by_cases e:x=b
  ·rw[e];exact h2
  ·rcases List.mem_append.1 hx with hx|hx
   ·have:=h.cnt x hx
    rw[List.count_append,List.count_eq_zero_of_not_mem (a:=x) (l:=[b]) (by simpa using e)]
    exact this
   ·exact absurd (List.mem_singleton.1 hx) e
theorem furth_pl0{l:List Int}{size:Int}(h:Pl0 l size)(hs:1<=size):Pl0 (l++[qCx l size]) size:=by
 obtain⟨h1,h2,h3,h4⟩:=qDF l
 have h4:=h4 h.lo
 refine h.snoc (furth_lo l size) ?_
 rw[List.count_append,show [qCx l size].count (qCx l size)=1 by simp]
 unfold qCx
 by_cases c:(qCa l).1<0∨((qCa l).2:Int)=size
 ·rw[if_pos c,List.count_eq_zero_of_not_mem fun hx=>by have:=h1 _ hx;omega];omega
 ·rw[if_neg c,not_or]at *
  have hm:=h3.resolve_left (by omega)
  have:=h.cnt _ hm
  omega
def Low(l:List Int):Prop:=∀b∈l,b<(l.length:Int)
end Go.Proofs
namespace Go.Proofs
open Go Go.Sx
attribute [local irreducible] Go.Sx.Tri
theorem CaAt.sub{V0 V:Mem}{p k n:Nat}{c:List Int}(h:CaAt p k c n V0 V):V0.sub V:=by
 obtain⟨mb,S,B,N,P,L,f,h,-⟩:=h
 exact h.sub
section
variable{V0 V:Mem}{p k n:Nat}{c xs:List Int}{l:Sl}{m:Int}
theorem qAO{i:Nat}{x:Int}(h:xs[i]?=some x):xs.take (i+1)=xs.take i++[x]:=by rw[List.take_add_one,h];rfl
theorem touchStep{i:Nat}(h:CaAt p k (tchL k c (xs.take i)) (n+qKu k c (xs.take i)) V0 V)(hk:1<=k/\k<=1000){x:Int}(hx:xs[i]?=some x)(hb:0<=x/\x<=1048576)(hn:n+xs.length<2147483648) :
  Tri Tryz.prog 63 #[pv p,.int .i64 x] V fun e V'=>(∃b:Bool,e=.returned (.tuple #[.bool b,.int .i64 0]))/\CaAt p k (tchL k c (xs.take (i+1))) (n+qKu k c (xs.take (i+1))) V0 V':=by
 have h1:=misL_le k (xs.take i) c
 have hi:=(List.getElem?_eq_some_iff.1 hx).1
 rw[List.length_take]at h1
 refine Tri.mono (c63 h hk hb (by omega)) ?_
 rintro _ V' ⟨rfl,h2⟩
 rw[qAO hx,tchL_snoc,misL_snoc,<- Nat.add_assoc]
 exact⟨⟨_,rfl⟩,h2⟩
theorem c54(h:CaAt p k c n V0 V)(hk:1<=k/\k<=1000)(hl:qAc V0 l 1 (xs.map qAd))(hb:∀x∈xs,0<=x/\x<=1048576)(hn:n+xs.length<2147483648) :
  Tri Tryz.prog 54 #[pv p,l.v] V fun e V'=>e=.returned (.int .i64 (qKu k c xs))/\CaAt p k (tchL k c xs) (n+qKu k c xs) V0 V':=by
 refine x54 ?_
 unfold w54
 refine(c90 h).call ⟨_,rfl,?_⟩
 refine qJb xs.length (fun i V1=>CaAt p k (tchL k c (xs.take i)) (n+qKu k c (xs.take i)) V0 V1) h ?_
 intro i V1 J hi h1 hJ
 have hl1:=hl.sub h1.sub
 refine⟨fun hlt=>?_,fun hge=>?_⟩
 ·obtain⟨x,hxm,hx,-,hil,hp,hz,hrow⟩:=hl1.get hlt
  refine⟨hp,hz,hlt,_,hrow,Tri.mono (touchStep h1 hk hx (hb x hxm) hn) ?_⟩
  rintro _ V2 ⟨⟨b,rfl⟩,h2⟩
  exact⟨_,_,rfl,hl1.succ hlt,hJ hil _ h2⟩
 ·have hd:=(hl1.done hge).2
  rw[List.take_of_length_le hd]at h1
  have h2:=misL_le k xs c
  refine(c90 h1).call ⟨_,rfl,⟨by omega,by omega⟩,?_,h1⟩
  show Ending.returned (.int .i64 (((n+qKu k c xs:Nat):Int)-(n:Int)))=_
  rw[show ((n+qKu k c xs:Nat):Int)-(n:Int)=(qKu k c xs:Int) by omega]
end
section
variable{V:Mem}{xs:List Int}{l:Sl}{size:Int}
theorem c77(hl:qAc V l 1 (xs.map qAd))(hne:xs≠[]):∃M,M∈xs/\(∀x∈xs,x<=M)/\PP 77 [l.v] V (.int .i64 M):=by
 have hn:=hl.n_eq
 have hpos:=List.length_pos_iff.2 hne
 -- the greatest one
 obtain⟨M,hM,hmax⟩:∃M,M∈xs/\∀x∈xs,x<=M:=by
  clear hl hn hpos
  induction xs using qKd with
  | h0=>exact absurd rfl hne
  | h ys y ih =>
   by_cases e:ys=[]
   ·subst e;exact⟨y,by simp,by simp⟩
   ·obtain⟨M,h1,h2⟩:=ih e
    by_cases c:M<y
    ·refine⟨y,by simp,fun x hx=>?_⟩
     rcases List.mem_append.1 hx with hx|hx
     ·have:=h2 x hx;omega
     ·rw[List.mem_singleton.1 hx];omega
    ·refine⟨M,by simp[h1],fun x hx=>?_⟩
     rcases List.mem_append.1 hx with hx|hx
     ·exact h2 x hx
     ·rw[List.mem_singleton.1 hx];omega
 refine⟨M,hM,hmax,x77 ?_⟩
 unfold w77
 refine⟨fun h=>absurd (show (l.n:Int)<1 from h) (by omega),fun _=>?_⟩
 obtain⟨p1,p2,p3,p4⟩:=qCj hl (List.getElem?_eq_getElem hpos)
 refine⟨p1,p2,p3,_,p4,fun n ys V'=>∃(i:Nat) (m:Int),ys=[.int .i64 m,.int .i64 i]/\1<=i/\i<=xs.length/\n=xs.length-i/\V'=V/\m∈xs/\∀j x,j<i->xs[j]?=some x->x<=m,xs.length-1,⟨1,_,rfl,Nat.le_refl _,hpos,rfl,rfl,List.getElem_mem hpos,fun j x hj hx=>?_⟩,?_⟩
 ·obtain rfl:j=0:=by omega
  rw[List.getElem?_eq_getElem hpos]at hx;cases hx;exact Int.le_refl _
 rintro n V' v2 v3 ⟨i,m,hys,h1,h2,rfl,rfl,hm,hall⟩ J hJ
 simp only[List.cons.injEq,Value.int.injEq,true_and,and_true]at hys
 obtain⟨rfl,rfl⟩:=hys
 refine⟨fun hlt=>?_,fun hge=>?_⟩
 ·obtain⟨y,hym,hy,-,hil,hp,hz,hrow⟩:=hl.get hlt
  refine⟨hp,hz,hlt,_,hrow,GenK.max2 (n1:=v2) (n2:=y) rfl rfl ⟨_,rfl,hl.succ hlt,hJ (xs.length-(i+1)) _ _ (by omega) ⟨i+1,_,rfl,by omega,hil,rfl,rfl,?_,fun j x hj hx=>?_⟩⟩⟩
  ·split <;> assumption
  ·by_cases e:j=i
   ·subst e;rw[hy]at hx;cases hx;split <;> omega
   ·have:=hall j x (by omega) hx;split <;> omega
 ·have hge:¬(i:Int)<(l.n:Int):=hge
  have e:v2=M:=by
   have a:=hmax v2 hm
   obtain⟨j,hj⟩:=List.mem_iff_getElem?.1 hM
   have b:=hall j M (by have:=(List.getElem?_eq_some_iff.1 hj).1;omega) hj
   omega
  subst e
  exact⟨rfl,rfl⟩
theorem qDJ{i:Nat}{x y:Int}(h:xs[i]?=some x):(xs.take (i+1)).count y=(xs.take i).count y+if x=y then 1 else 0:=by
 rw[qAO h,List.count_append]
 congr 1
 by_cases e:x=y
 ·simp[e]
 ·simp[e]
theorem c41(hl:qAc V l 1 (xs.map qAd))(h:Pl0 xs size)(hb:∀b∈xs,b<=1048576):PP 41 [l.v,.int .i64 size] V (.int .i64 (qCx xs size)):=by
 refine x41 ?_
 unfold w41
 have hn:=hl.n_eq
 have hc:=hl.cap
 have hf:=hl.fit
 refine⟨fun h0=>?_,fun h0=>?_⟩
 ·have:xs=[]:=List.length_eq_zero_iff.1 (by have h0:(l.n:Int)=0:=h0;omega)
  subst this
  exact⟨rfl,rfl⟩
 ·have hne:xs≠[]:=fun e=>h0 (by rw[hn,e];rfl)
  obtain⟨M,hM,hmax,hP⟩:=c77 hl hne
  have h1:=h.lo M hM
  have h2:=hb M hM
  refine hP.call ⟨_,rfl,qFd (mk:=.int .i64) (b0:=0) qEZ xs.length (fun i b V1=>V1=V/\b=(((xs.take i).count M:Nat):Int)) ⟨rfl,rfl⟩ ?_⟩
  rintro i b V1 J hi ⟨rfl,rfl⟩ hJ
  refine⟨fun hlt=>?_,fun hge=>?_⟩
  ·obtain⟨y,hym,hy,-,hil,hp,hz,hrow⟩:=hl.get hlt
   have e:=qDJ (y:=M) hy
   have hcl:(xs.take i).count M<=i:=Nat.le_trans List.count_le_length (by rw[List.length_take];omega)
   refine⟨hp,hz,hlt,_,hrow,fun hE=>⟨⟨by omega,by omega⟩,hl.succ hlt,hJ hil _ _ ⟨rfl,?_⟩⟩,fun hE=>⟨hl.succ hlt,hJ hil _ _ ⟨rfl,?_⟩⟩⟩
   ·rw[e,if_pos hE];omega
   ·rw[e,if_neg hE];rfl
  ·have hd:=(hl.done hge).2
   rw[List.take_of_length_le hd]
   have e:=furth_eq h hM hmax rfl
   refine⟨fun hlt=>?_,fun hge=>⟨⟨by omega,by omega⟩,?_⟩⟩
   ·rw[e,if_pos (by exact hlt)];exact⟨rfl,rfl⟩
   ·rw[e,if_neg (by exact hge)];exact⟨rfl,rfl⟩
open Classical in
noncomputable def plB(xs:List Int)(size:Int):Bool:=decide (xs.length<=4096/\Plc xs size)
theorem qEN:plB xs size=true↔xs.length<=4096/\Plc xs size:=by unfold plB;simp only[decide_eq_true_eq]
theorem plB_false(h:¬(xs.length<=4096/\Plc xs size)):plB xs size=false:=by unfold plB;simp only[decide_eq_false_iff_not];exact h
theorem plc_next{i:Nat}{x:Int}(h:Plc (xs.take i) size)(hx:xs[i]?=some x)(h1:0<=x/\x<4096)(h2:(((xs.take (i+1)).count x:Nat):Int)<=size):Plc (xs.take (i+1)) size:=by
 rw[qAO hx]at h2 ⊢
 exact h.snoc h1 h2
theorem qGD{i:Nat}{x:Int}(hx:xs[i]?=some x)(h:¬(0<=x/\x<4096)∨size<(((xs.take (i+1)).count x:Nat):Int)):¬Plc xs size:=fun P=>by
 have hm:=List.mem_of_getElem? hx
 have a:=P.rng x hm
 have b:=P.cnt x hm
 have c:(xs.take (i+1)).count x<=xs.count x:=(List.take_sublist _ _).count_le x
 omega
theorem c40{n:Int}(hl:qAc V l 1 (xs.map qAd)):PP 40 [l.v,.int .i64 size,.int .i64 n] V (.bool (decide ((xs.length:Int)=n)&&plB xs size)):=by
 obtain⟨R,hR⟩:∃R:Ending->Mem->Prop,R=fun e V'=>e=.returned (.bool (decide ((xs.length:Int)=n)&&plB xs size))/\V.sub V':=⟨_,rfl⟩
 refine Pur.mk ?_
 rw[<- hR]
 refine x40 ?_
 unfold w40
 have hn:=hl.n_eq
 have no:∀{V'},V.sub V'->¬(xs.length<=4096/\Plc xs size)->R (.returned (.bool false)) V':=fun hs h=>by
  rw[hR,plB_false h,Bool.and_false];exact⟨rfl,hs⟩
 refine⟨fun he=>⟨fun hg=>?_,fun hg=>?_⟩,fun he=>?_⟩
 ·have he:(l.n:Int)=n:=he
  have hg:4096<n:=hg
  exact no (Mem.sub.refl _) (by omega)
 ·have he:(l.n:Int)=n:=he
  have hg:¬4096<n:=hg
  refine GenK.makeMap fun mb hmb=>⟨some mb,rfl,?_⟩
  have s1:=Mem.sub_new hmb (.map #[] 0)
  refine qAJ (mk:=.bool) (b0:=false) xs.length (fun i V1=>V.sub V1/\Plc (xs.take i) size/\qFE (Value.int .i64) V1 mb fun x=>if x∈xs.take i then some (.int .i64 (((xs.take i).count x:Nat):Int)) else none) ⟨s1,by rw[List.take_zero];exact Plc.nil,(qFE.made V mb).congr fun x=>by simp⟩ ?_
  rintro i b V1 J hi ⟨hs,hP,hm⟩ hJ
  have hl1:=hl.sub hs
  refine⟨fun hlt=>?_,fun hge=>?_⟩
  ·obtain⟨x,hxm,hx,-,hil,hp,hz,hrow⟩:=hl1.get hlt
   have e:=qDJ (y:=x) hx
   rw[if_pos rfl]at e
   have hcl:(xs.take i).count x<=i:=Nat.le_trans List.count_le_length (by rw[List.length_take];omega)
   have hval:((if x∈xs.take i then some (Value.int .i64 (((xs.take i).count x:Nat):Int)) else none:Option Value).getD (.int .i64 0))=.int .i64 (((xs.take i).count x:Nat):Int):=by
    by_cases c:x∈xs.take i
    ·rw[if_pos c];rfl
    ·rw[if_neg c,List.count_eq_zero_of_not_mem c];rfl
   refine⟨hp,hz,hlt,_,hrow,qBs.key1 (k:=x) (qGb Tryz.underlying3) Tryz.underlying132 qFh hm ⟨_,hval,⟨by omega,by omega⟩,qDw.key (k:=x) (qGb Tryz.underlying3) Tryz.underlying132 hm fun om hom=>?_⟩⟩
   have hs2:V.sub (V1.set mb om):=hs.set hmb om
   have hom2:qFE (Value.int .i64) (V1.set mb om) mb fun y=>if y∈xs.take (i+1) then some (.int .i64 (((xs.take (i+1)).count y:Nat):Int)) else none:=hom.congr fun y=>by
    have ey:=qDJ (y:=y) hx
    by_cases c:y=x
    ·subst c
     rw[if_pos rfl,if_pos (by rw[qAO hx];simp),e];rfl
    ·rw[if_neg fun h:x=y=>c h.symm]at ey
     rw[if_neg c,ey,qAO hx]
     simp[c]
   refine⟨fun h=>no hs2 fun P=>?_,fun h1=>⟨fun h=>no hs2 fun P=>?_,fun h2=>?_⟩⟩
   ·exact qGD hx (.inl (by have h:x<0:=h;omega)) P.2
   ·exact qGD hx (.inl (by have h:4096<=x:=h;omega)) P.2
   ·have h1:¬x<0:=h1
    have h2:¬4096<=x:=h2
    refine qBs.key1 (k:=x) (qGb Tryz.underlying3) Tryz.underlying132 qFh hom2 ⟨(((xs.take (i+1)).count x:Nat):Int),by rw[if_pos (by rw[qAO hx];simp)];rfl,fun h=>no hs2 fun P=>qGD hx (.inr h) P.2,fun h3=>?_⟩
    exact⟨hl1.succ hlt,hJ hil _ _ ⟨hs2,plc_next hP hx (by omega) (Int.not_lt.1 h3),hom2⟩⟩
  ·have hd:=(hl1.done hge).2
   rw[List.take_of_length_le hd]at hP
   rw[hR,qEN.2 ⟨by omega,hP⟩,decide_eq_true (by omega)]
   exact⟨rfl,hs⟩
 ·have he:¬(l.n:Int)=n:=he
  rw[hR,decide_eq_false (by omega)]
  exact⟨rfl,Mem.sub.refl _⟩
end
end Go.Proofs
