/- Part 19 of a proof of a law of this seat: no statement of the seat is proved here. -/
import Derived.Test.YtmeagdecjpknkaaGreatDoorPp18
set_option linter.unusedVariables false
set_option linter.unusedSimpArgs false
namespace Go.Proofs
open Go Go.Sx
attribute [local irreducible] Go.Sx.Tri
theorem oneG{α:Type}{t e sz:Nat}{row:α->List Value}(A:AppP t e sz row){V0 V:Mem}{b:Nat}{s:Sl}{xs:List α}{x:α}(o:Sx.Own V0 V e sz s (xs.flatMap row))(hb:V b=none)(hn:xs.length+1<=2147483648){ty:Nat}{y z:Operand}{vals:Operand->Value}(hx:vals y=.slice s.p s.n s.c)(hy:vals z=.slice (sa b) 1 1)(hl:∀x,(row x).length=sz){Q:Value->Mem->Prop}(hQ:∀s' V',Sx.Own V0 V' e sz s' ((xs++[x]).flatMap row)->Q (.slice s'.p s'.n s'.c) V') :
  GenK Tryz.prog (.call { callee:=.builtin .append,args:=#[y,z],argTypes:=#[t,t] }) ty vals (V.set b (.cells (row x).toArray e (0,0))) Q :=
 A (s:=s) (u:=⟨some ⟨b,0,none⟩,1,1⟩) (xs:=xs) (ys:=[x]) hx hy (o.new hb _) (qAc.cells (xs:=[x]) (row:=row) mss (by simp) hl (by simp) (by simp)) (by simpa using hn) hQ
section
variable{V:Mem}{xs:List Int}{l:Sl}{size:Int}
theorem c16:PP 16 [.int .i64 size] V (.bool (decide (1<=size/\size<=64))):=by
 refine x16 ?_
 unfold w16
 refine⟨fun h=>?_,fun h=>?_⟩
 ·have h:1<=size:=h
  rw[show decide (1<=size/\size<=64)=decide (size<=64) by simp[h]];exact⟨rfl,rfl⟩
 ·have h:¬1<=size:=h
  rw[decide_eq_false (by omega)];exact⟨rfl,rfl⟩
theorem c43(hl:qAc V l 1 (xs.map qAd))(h:∀b∈xs,0<=b/\b<=1048576)(hn:xs.length<=2147483648):PP 43 [l.v,.int .i64 size] V (.int .i64 (qCx xs size)):=by
 refine x43 ?_
 unfold w43
 refine loop3b (mk:=.int .i64) (mc:=.int .i64) (b0:=-1) (c0:=0) qEZ qEZ xs.length (fun i a b V1=>V1=V/\a=(qCa (xs.take i)).1/\b=((qCa (xs.take i)).2:Int)) ⟨rfl,rfl,rfl⟩ ?_
 rintro i a b V1 J hi ⟨rfl,rfl,rfl⟩ hJ
 obtain⟨h1,h2,h3,h4⟩:=qDF (xs.take i)
 have h4:=h4 fun x hx=>(h x (List.mem_of_mem_take hx)).1
 have h5:(qCa (xs.take i)).2<=i:=by
  rw[h4];exact Nat.le_trans List.count_le_length (by rw[List.length_take];omega)
 have h6:(qCa (xs.take i)).1<=1048576:=by
  rcases h3 with h3|h3
  ·omega
  ·exact(h _ (List.mem_of_mem_take h3)).2
 refine⟨fun hlt=>?_,fun hge=>?_⟩
 ·obtain⟨x,hxm,hx,-,hil,hp,hz,hrow⟩:=hl.get hlt
  have e:qCa (xs.take (i+1))=lastS (qCa (xs.take i)) x:=by rw[qAO hx,qJI]
  have hsu:=hl.succ hlt
  refine⟨hp,hz,hlt,_,hrow,fun c=>⟨hp,hz,hlt,_,hrow,hp,hz,hlt,_,hrow,fun _=>⟨⟨by decide,by decide⟩,hsu,hJ hil _ _ _ ⟨rfl,?_,?_⟩⟩,fun hh=>absurd rfl hh⟩,fun c=>⟨hp,hz,hlt,_,hrow,fun c2=>⟨⟨by omega,by omega⟩,hsu,hJ hil _ _ _ ⟨rfl,?_,?_⟩⟩,fun c2=>⟨hsu,hJ hil _ _ _ ⟨rfl,?_,?_⟩⟩⟩⟩
  all_goals
   rw[e]
   unfold lastS
  ·rw[if_pos (by exact c)]
  ·rw[if_pos (by exact c)];rfl
  ·rw[if_neg (by exact c),if_pos (by exact c2)]
  ·rw[if_neg (by exact c),if_pos (by exact c2)];show _=(((qCa (xs.take i)).2+1:Nat):Int);omega
  ·rw[if_neg (by exact c),if_neg (by exact c2)]
  ·rw[if_neg (by exact c),if_neg (by exact c2)]
 ·have hd:=(hl.done hge).2
  rw[List.take_of_length_le hd]at h6 h2 ⊢
  unfold qCx
  refine⟨fun c=>⟨⟨by omega,by omega⟩,?_⟩,fun c=>⟨fun c2=>⟨⟨by omega,by omega⟩,?_⟩,fun c2=>?_⟩⟩
  ·rw[if_pos (.inl c)];exact⟨rfl,rfl⟩
  ·rw[if_pos (.inr c2)];exact⟨rfl,rfl⟩
  ·rw[if_neg (fun hh=>hh.elim c c2)];exact⟨rfl,rfl⟩
theorem c25(hl:qAc V l 1 (xs.map qAd)):PP 25 [l.v,.int .i64 size] V (.bool (plB xs size)):=by
 obtain⟨R,hR⟩:∃R:Ending->Mem->Prop,R=fun e V'=>e=.returned (.bool (plB xs size))/\V.sub V':=⟨_,rfl⟩
 refine Pur.mk ?_
 rw[<- hR]
 refine x25 ?_
 unfold w25
 have hn:=hl.n_eq
 have no:∀{V'},V.sub V'->¬(xs.length<=4096/\Plc xs size)->R (.returned (.bool false)) V':=fun hs h=>by
  rw[hR,plB_false h];exact⟨rfl,hs⟩
 refine⟨fun hg=>no (Mem.sub.refl _) fun h=>?_,fun hg=>?_⟩
 ·have hg:4096<(l.n:Int):=hg
  omega
 have hg:¬4096<(l.n:Int):=hg
 refine mk31 (n:=4096) rfl rfl (by decide) fun g hgn=>⟨⟨some ⟨g,0,none⟩,4096,4096⟩,rfl,?_⟩
 have C0:=qHC hgn (n:=4096) (by decide)
 obtain⟨V1,hV1⟩:∃V1,V1=V.set g (.cells (madeCells ((Value.int .i64 0).cells) (4096*1)) 3 (0,0)):=⟨_,rfl⟩
 rw[<- hV1]at C0 ⊢
 obtain⟨gs,hgs⟩:∃gs:Sl,gs=⟨some ⟨g,0,none⟩,4096,4096⟩:=⟨_,rfl⟩
 rw[<- hgs]at C0 ⊢
 refine qAJ (mk:=.bool) (b0:=false) xs.length (fun i V2=>Plc (xs.take i) size/\∃C:List Int,Sx.Own V V2 3 1 gs (C.flatMap qAd)/\C.length=4096/\∀j:Nat,j<4096->C[j]?=some (((xs.take i).count (j:Int):Nat):Int)) ⟨by rw[List.take_zero];exact Plc.nil,_,C0,List.length_replicate,fun j hj=>by rw[List.getElem?_replicate,if_pos hj,List.take_zero];rfl⟩ ?_
 rintro i b V2 J hi ⟨hP,C,hC,hCl,hCa⟩ hJ
 have hl1:=hl.sub hC.sub
 refine⟨fun hlt=>?_,fun hge=>?_⟩
 ·obtain⟨x,hxm,hx,-,hil,hp,hz,hrow⟩:=hl1.get hlt
  refine⟨hp,hz,hlt,_,hrow,fun h1=>no hC.sub fun P=>qGD hx (.inl (by have h1:x<0:=h1;omega)) P.2,fun h1=>⟨hp,hz,hlt,_,hrow,fun h2=>no hC.sub fun P=>qGD hx (.inl (by have h2:4096<=x:=h2;omega)) P.2,fun h2=>?_⟩⟩
  have h1:¬x<0:=h1
  have h2:¬4096<=x:=h2
  obtain⟨q,rfl⟩:∃q:Nat,x=(q:Int):=⟨x.toNat,by omega⟩
  have hq:q<4096:=by omega
  obtain⟨c1,c2,c3,c4⟩:=qCj (hC.rows (fun _=>rfl) (by decide)) (hCa q hq)
  have e:=qDJ (y:=(q:Int)) hx
  rw[if_pos rfl]at e
  have hcl:(xs.take i).count (q:Int)<=i:=Nat.le_trans List.count_le_length (by rw[List.length_take];omega)
  refine⟨hp,hz,hlt,_,hrow,hp,hz,hlt,_,hrow,c1,c2,c3,_,c4,⟨by omega,by omega⟩,c1,c2,c3,?_⟩
  show StT (qAa gs.p (q*1)) 0 _ _ _
  rw[Nat.mul_one]
  refine Own.store hC (i:=q) (by rw[qEa];omega) fun V3 hC3 _=>?_
  rw[qDZ]at hC3
  have hCa3:∀j:Nat,j<4096->(C.set q ((((xs.take i).count (q:Int):Nat):Int)+1))[j]?=some (((xs.take (i+1)).count (j:Int):Nat):Int):=fun j hj=>by
   have ej:=qDJ (y:=(j:Int)) hx
   by_cases c:q=j
   ·subst c
    rw[List.getElem?_set_self (by omega),e];rfl
   ·rw[if_neg (by omega)]at ej
    rw[List.getElem?_set_ne c,hCa j hj,ej];rfl
  obtain⟨-,-,-,hrow3⟩:=qCj (hl.sub hC3.sub) hx
  obtain⟨-,-,-,c5⟩:=qCj (hC3.rows (fun _=>rfl) (by decide)) (hCa3 q hq)
  refine⟨hp,hz,hlt,_,hrow3,c1,c2,c3,_,c5,fun h=>no hC3.sub fun P=>qGD hx (.inr h) P.2,fun h3=>⟨hl1.succ hlt,hJ hil _ _ ⟨plc_next hP hx (by omega) (Int.not_lt.1 h3),_,hC3,by simp[hCl],hCa3⟩⟩⟩
 ·have hd:=(hl1.done hge).2
  rw[List.take_of_length_le hd]at hP
  rw[hR,qEN.2 ⟨by omega,hP⟩]
  exact⟨rfl,hC.sub⟩
def FillIs(xs:List Int)(size:Int)(ys:List Int)(c:Int):Prop :=
 (¬(1<=size/\size<=64)->ys=[]/\c=2)/\((1<=size/\size<=64)->plB xs size=false->ys=[]/\c=30) /\
 ((1<=size/\size<=64)->plB xs size=true->(xs.length=4096∨qCx xs size=4096)->ys=[]/\c=21)/\((1<=size/\size<=64)->plB xs size=true->¬(xs.length=4096∨qCx xs size=4096)->ys=xs++[qCx xs size]/\c=0)
theorem FillIs.eq{ys zs:List Int}{c c':Int}(h:FillIs xs size ys c)(k:FillIs xs size zs c'):ys=zs/\c=c':=by
 obtain⟨h1,h2,h3,h4⟩:=h
 obtain⟨k1,k2,k3,k4⟩:=k
 by_cases a:1<=size/\size<=64
 ·cases b:plB xs size with
  | false=>rw[(h2 a b).1,(h2 a b).2,(k2 a b).1,(k2 a b).2];exact⟨rfl,rfl⟩
  | true =>
   by_cases e:xs.length=4096∨qCx xs size=4096
   ·rw[(h3 a b e).1,(h3 a b e).2,(k3 a b e).1,(k3 a b e).2];exact⟨rfl,rfl⟩
   ·rw[(h4 a b e).1,(h4 a b e).2,(k4 a b e).1,(k4 a b e).2];exact⟨rfl,rfl⟩
 ·rw[(h1 a).1,(h1 a).2,(k1 a).1,(k1 a).2];exact⟨rfl,rfl⟩
def FillP(V:Mem)(xs:List Int)(size:Int):Ending->Mem->Prop:=fun e V'=>V.sub V'/\∃(s:Sl) (ys:List Int) (c:Int),e=.returned (.tuple #[s.v,.int .i64 c])/\qAc V' s 1 (ys.map qAd)/\FillIs xs size ys c
theorem qEc{c:Int}(h:FillIs xs size [] c):FillP V xs size (.returned (.tuple #[.slice none 0 0,.int .i64 c])) V:=⟨Mem.sub.refl _,qAT,[],c,rfl,qAc.nil,h⟩
theorem c11(hl:qAc V l 1 (xs.map qAd)):Tri Tryz.prog 11 #[l.v,.int .i64 size] V (FillP V xs size):=by
 refine x11 ?_
 unfold w11
 have hn:=hl.n_eq
 refine⟨fun h=>qEc ⟨fun _=>⟨rfl,rfl⟩,fun a=>?_,fun a=>?_,fun a=>?_⟩,fun h=>⟨fun h2=>qEc ⟨fun _=>⟨rfl,rfl⟩,fun a=>?_,fun a=>?_,fun a=>?_⟩,fun h2=>?_⟩⟩
 iterate 3 exact absurd a.1 (by have h:size<1:=h;omega)
 iterate 3 exact absurd a.2 (by have h2:64<size:=h2;omega)
 have h:¬size<1:=h
 have h2:¬64<size:=h2
 have ha:1<=size/\size<=64:=by omega
 refine(c40 hl).call ⟨_,rfl,?_⟩
 rw[decide_eq_true (show (xs.length:Int)=(l.n:Int) by omega),Bool.true_and]
 refine⟨fun hb=>?_,fun hb=>qEc ⟨fun h=>absurd ha h,fun _ _=>⟨rfl,rfl⟩,fun _ h=>absurd h hb,fun _ h=>absurd h hb⟩⟩
 have hb:plB xs size=true:=hb
 obtain⟨hx,P⟩:=qEN.1 hb
 have nof:plB xs size=false->∀{Q:Prop},Q:=fun h=>by rw[hb]at h;cases h
 have hrg:∀b∈xs,b<=1048576:=fun b h=>by have:=P.rng b h;omega
 refine⟨fun h4=>qEc ⟨fun h=>absurd ha h,fun _ h=>nof h,fun _ _ _=>⟨rfl,rfl⟩,fun _ _ h=>absurd (.inl (by have h4:(l.n:Int)=4096:=h4;omega)) h⟩,fun h4=>(c41 hl P.pl0 hrg).call ⟨_,rfl,fun h5=>qEc ⟨fun h=>absurd ha h,fun _ h=>nof h,fun _ _ _=>⟨rfl,rfl⟩,fun _ _ h=>absurd (.inr h5) h⟩,fun h5=>?_⟩⟩
 refine Tri.mono (c42 hl (by omega)) ?_
 rintro _ V3 ⟨s,rfl,o⟩
 refine⟨s,rfl,(c41 (hl.sub o.sub) P.pl0 hrg).call ⟨_,rfl,fun b hb1=>?_⟩⟩
 refine oneG (row:=qAd) qDb (x:=qCx xs size) (s:=s) o hb1 (by omega) rfl rfl (fun _=>rfl) fun s' V' o'=>?_
 exact⟨s',rfl,o'.sub,s',_,_,rfl,o'.rows (fun _=>rfl) (by decide),fun h=>absurd ha h,fun _ h=>nof h,fun _ _ h=>absurd h (by rintro (h|h);exact h4 (by show (l.n:Int)=4096;omega);exact h5 h),fun _ _ _=>⟨rfl,rfl⟩⟩
theorem c12(hl:qAc V l 1 (xs.map qAd)):Tri Tryz.prog 12 #[l.v,.int .i64 size] V (FillP V xs size):=by
 refine x12 ?_
 unfold w12
 have hn:=hl.n_eq
 refine c16.call ⟨_,rfl,fun h=>?_,fun h=>qEc ⟨fun _=>⟨rfl,rfl⟩,fun a=>absurd (decide_eq_true a) h,fun a=>absurd (decide_eq_true a) h,fun a=>absurd (decide_eq_true a) h⟩⟩
 have ha:1<=size/\size<=64:=of_decide_eq_true h
 refine(c25 hl).call ⟨_,rfl,fun hb=>?_,fun hb=>qEc ⟨fun h=>absurd ha h,fun _ _=>⟨rfl,rfl⟩,fun _ h=>absurd h hb,fun _ h=>absurd h hb⟩⟩
 have hb:plB xs size=true:=hb
 obtain⟨hx,P⟩:=qEN.1 hb
 have nof:plB xs size=false->∀{Q:Prop},Q:=fun h=>by rw[hb]at h;cases h
 have hrg:∀b∈xs,0<=b/\b<=1048576:=fun b h=>by have:=P.rng b h;omega
 refine⟨fun h4=>qEc ⟨fun h=>absurd ha h,fun _ h=>nof h,fun _ _ _=>⟨rfl,rfl⟩,fun _ _ h=>absurd (.inl (by have h4:(l.n:Int)=4096:=h4;omega)) h⟩,fun h4=>(c43 hl hrg (by omega)).call ⟨_,rfl,fun h5=>qEc ⟨fun h=>absurd ha h,fun _ h=>nof h,fun _ _ _=>⟨rfl,rfl⟩,fun _ _ h=>absurd (.inr h5) h⟩,fun h5=>?_⟩⟩
 intro b0 hb0
 refine copyInt hb0 hl (by omega) rfl rfl fun s V3 o=>⟨s,rfl,(c43 (hl.sub o.sub) hrg (by omega)).call ⟨_,rfl,fun b hb1=>?_⟩⟩
 refine oneG (row:=qAd) qDb (x:=qCx xs size) (s:=s) o hb1 (by omega) rfl rfl (fun _=>rfl) fun s' V' o'=>?_
 exact⟨s',rfl,o'.sub,s',_,_,rfl,o'.rows (fun _=>rfl) (by decide),fun h=>absurd ha h,fun _ h=>nof h,fun _ _ h=>absurd h (by rintro (h|h);exact h4 (by show (l.n:Int)=4096;omega);exact h5 h),fun _ _ _=>⟨rfl,rfl⟩⟩
end
end Go.Proofs
namespace Go.Proofs
open Go Go.Sx
def qDv(most:Nat)(but l:List Int)(y:Int):List Int:=if l.length<most/\y ∉ l/\y ∉ but then l++[y] else l
def bfsP(d:Ds)(m:Mm)(most:Nat)(but:List Int):Nat->List Int->Nat->List Int
 | 0,l,_=>l
 | f+1,l,i=>match l[i]? with|some x=>bfsP d m most but f ((qAx d m x).foldl (qDv most but) l) (i+1) | none=>l
def qCG(d:Ds)(m:Mm)(l:List Int)(most:Nat)(but:List Int):List Int:=bfsP d m most but (m.nodes.length+1) l 0
def qGz(l:List Int)(n:Nat):List Int:=l++((List.range n).map fun i:Nat=>(i:Int)+1).filter fun x=>decide (x ∉ l)
structure Nds (N:Nat) (l:List Int):Prop where
 nd:l.Nodup
 rng:∀x∈l,1<=x/\x<=(N:Int)
def allN(N:Nat):List Int:=(List.range N).map fun i:Nat=>(i:Int)+1
theorem allN_len(N:Nat):(allN N).length=N:=by unfold allN;rw[List.length_map,List.length_range]
theorem mem_allN{N:Nat}{x:Int}:x∈allN N↔1<=x/\x<=(N:Int):=by
 unfold allN
 rw[List.mem_map]
 constructor
 ·rintro ⟨i,hi,rfl⟩
  have:=List.mem_range.1 hi
  omega
 ·intro h
  exact⟨(x-1).toNat,List.mem_range.2 (by omega),by omega⟩
theorem allN_nd(N:Nat):(allN N).Nodup:=List.Pairwise.map _ (fun a b h=>by omega) List.nodup_range
theorem Nds.nil{N:Nat}:Nds N []:=⟨List.nodup_nil,by simp⟩
theorem Nds.len{N:Nat}{l:List Int}(h:Nds N l):l.length<=N:=by
 have:=nodup_le l (allN N) h.nd fun x hx=>mem_allN.2 (h.rng x hx)
 rwa [allN_len]at this
theorem Nds.snoc{N:Nat}{l:List Int}(h:Nds N l){y:Int}(hy:1<=y/\y<=(N:Int))(hn:y ∉ l):Nds N (l++[y]):=by
 refine⟨?_,fun x hx=>?_⟩
 ·rw[List.nodup_append]
  exact⟨h.nd,by simp,fun a ha b hb e=>hn (by rw[<- List.mem_singleton.1 hb,<- e];exact ha)⟩
 ·rcases List.mem_append.1 hx with hx|hx
  ·exact h.rng x hx
  ·rw[List.mem_singleton.1 hx];exact hy
theorem Nds.add{N most:Nat}{but l:List Int}(h:Nds N l){y:Int}(hy:1<=y/\y<=(N:Int)):Nds N (qDv most but l y):=by
 unfold qDv
 split
 ·rename_i c;exact h.snoc hy c.2.1
 ·exact h
theorem add_sub{most:Nat}{but l:List Int}{y x:Int}(h:x∈l):x∈qDv most but l y:=by
 unfold qDv;split
 ·simp[h]
 ·exact h
structure Spr (N most:Nat) (but l0 l:List Int):Prop where
 nds:Nds N l
 sub:∀x∈l0,x∈l
 new:∀x∈l,x∈l0∨x ∉ but
 cap:l.length<=most∨l.length<=l0.length
theorem Spr.refl{N most:Nat}{but l:List Int}(h:Nds N l):Spr N most but l l:=⟨h,fun _ h=>h,fun _ h=>.inl h,.inr (Nat.le_refl _)⟩
theorem Spr.add{N most:Nat}{but l0 l:List Int}(h:Spr N most but l0 l){y:Int}(hy:1<=y/\y<=(N:Int)):Spr N most but l0 (qDv most but l y):=by
 refine⟨h.nds.add hy,fun x hx=>add_sub (h.sub x hx),fun x hx=>?_,?_⟩
 ·unfold qDv at hx
  split at hx
  ·rename_i c
   rcases List.mem_append.1 hx with hx|hx
   ·exact h.new x hx
   ·rw[List.mem_singleton.1 hx];exact .inr c.2.2
  ·exact h.new x hx
 ·unfold qDv
  split
  ·rename_i c;rw[List.length_append,List.length_singleton];exact .inl c.1
  ·exact h.cap
theorem Spr.fold{N most:Nat}{but l0:List Int}:∀(ys l:List Int),Spr N most but l0 l->(∀y∈ys,1<=y/\y<=(N:Int))->Spr N most but l0 (ys.foldl (qDv most but) l)
 | [],_,h,_=>h
 | y::ys,l,h,hy=>Spr.fold ys _ (h.add (hy y (by simp))) fun z hz=>hy z (by simp[hz])
section
variable{d:Ds}{m:Mm}{most:Nat}{but:List Int}
theorem Spr.bfs(hv:qAs d m=true){l0:List Int}:∀(f:Nat) (l:List Int) (i:Nat),Spr m.nodes.length most but l0 l->Spr m.nodes.length most but l0 (bfsP d m most but f l i)
 | 0,_,_,h=>h
 | f+1,l,i,h=>by
  unfold bfsP
  split
  ·exact Spr.bfs hv f _ _ (h.fold _ _ ((qGV hv).2 _))
  ·exact h
theorem qHt(hv:qAs d m=true){l:List Int}(h:Nds m.nodes.length l):Spr m.nodes.length most but l (qCG d m l most but):=Spr.bfs hv _ _ _ (Spr.refl h)
end
theorem qKj{N:Nat}{l:List Int}(h:Nds N l):Nds N (qGz l N)/\∀x,1<=x->x<=(N:Int)->x∈qGz l N:=by
 have hm:∀x,x∈((List.range N).map fun i:Nat=>(i:Int)+1).filter (fun x=>decide (x ∉ l))↔(1<=x/\x<=(N:Int))/\x ∉ l:=fun x=>by
  rw[List.mem_filter,decide_eq_true_eq];exact and_congr_left fun _=>mem_allN
 refine⟨⟨?_,fun x hx=>?_⟩,fun x h1 h2=>?_⟩
 ·unfold qGz
  rw[List.nodup_append]
  refine⟨h.nd,(allN_nd N).filter _,fun a ha b hb e=>?_⟩
  rw[hm]at hb
  exact hb.2 (e ▸ ha)
 ·rcases List.mem_append.1 hx with hx|hx
  ·exact h.rng x hx
  ·exact((hm x).1 hx).1
 ·unfold qGz
  rw[List.mem_append,hm]
  by_cases c:x∈l
  ·exact .inl c
  ·exact .inr ⟨⟨h1,h2⟩,c⟩
structure qEG (N:Nat) (O:List Int) (size:Nat) (out:List Int):Prop where
 len:out.length=N
 at_:∀(i:Nat) (n:Int),O[i]?=some n->out[(n-1).toNat]?=some ((i / size:Nat):Int)
theorem qEG.eq{N size:Nat}{O a b:List Int}(h:qEG N O size a)(k:qEG N O size b)(hO:∀x,1<=x->x<=(N:Int)->x∈O):a=b:=by
 refine List.ext_getElem? fun j=>?_
 by_cases hj:j<N
 ·obtain⟨i,hi⟩:=List.mem_iff_getElem?.1 (hO ((j:Int)+1) (by omega) (by omega))
  have h1:=h.at_ i _ hi
  have h2:=k.at_ i _ hi
  rw[show ((j:Int)+1-1).toNat=j by omega]at h1 h2
  rw[h1,h2]
 ·rw[List.getElem?_eq_none (by rw[h.len];omega),List.getElem?_eq_none (by rw[k.len];omega)]
theorem plc_of{N size:Nat}{out:List Int}(hl:out.length=N)(hN:N<=4096)(hb:∀b∈out,0<=b/\b<(N:Int))(hc:∀b∈out,∃S:List Int,S.length<=size/\∀j:Nat,out[j]?=some b->((j:Int)+1)∈S):Plc out size/\Low out:=by
 refine⟨⟨fun b h=>by have:=hb b h;omega,fun b h=>?_⟩,fun b h=>by rw[hl];exact(hb b h).2⟩
 obtain⟨S,hS,hall⟩:=hc b h
 have e:out.count b=(((List.range out.length).filter fun j=>decide (out[j]?=some b)).map fun j:Nat=>(j:Int)+1).length:=by
  rw[List.length_map]
  clear hall hS h hc hb hl
  induction out using qKd with
  | h0=>rfl
  | h l x ih =>
   rw[List.count_append,ih,List.length_append,List.length_singleton,List.range_succ,List.filter_append,List.length_append]
   congr 1
   ·congr 1
    refine List.filter_congr fun j hj=>?_
    rw[List.getElem?_append_left (List.mem_range.1 hj)]
   ·rw[List.filter_cons,List.filter_nil]
    by_cases c:x=b
    ·simp[c]
    ·simp[c]
 have h1:=nodup_le (((List.range out.length).filter fun j=>decide (out[j]?=some b)).map fun j:Nat=>(j:Int)+1) S (List.Pairwise.map _ (fun a b h=>by omega) (List.nodup_range.filter _)) fun x hx=>by
  obtain⟨j,hj,rfl⟩:=List.mem_map.1 hx
  exact hall j (of_decide_eq_true (List.mem_filter.1 hj).2)
 omega
theorem qEG.plc{N size:Nat}{O out:List Int}(h:qEG N O size out)(hO:∀x,1<=x->x<=(N:Int)->x∈O)(hn:Nds N O)(hs:1<=size)(hN:N<=4096):Plc out size/\Low out:=by
 have at1:∀(j:Nat) (b:Int),out[j]?=some b->∃i:Nat,O[i]?=some ((j:Int)+1)/\b=((i / size:Nat):Int):=fun j b hb=>by
  have hj:j<N:=by rw[<- h.len];exact(List.getElem?_eq_some_iff.1 hb).1
  obtain⟨i,hi⟩:=List.mem_iff_getElem?.1 (hO ((j:Int)+1) (by omega) (by omega))
  have h1:=h.at_ i _ hi
  rw[show ((j:Int)+1-1).toNat=j by omega,hb]at h1
  exact⟨i,hi,by injection h1⟩
 refine plc_of h.len hN (fun b hb=>?_) fun b hb=>?_
 ·obtain⟨j,hj⟩:=List.mem_iff_getElem?.1 hb
  obtain⟨i,hi,rfl⟩:=at1 j b hj
  have h1:=hn.len
  have h2:=(List.getElem?_eq_some_iff.1 hi).1
  have h3:=Nat.div_le_self i size
  generalize i / size=q at h3 ⊢
  omega
 ·obtain⟨j,hj⟩:=List.mem_iff_getElem?.1 hb
  obtain⟨i,hi,rfl⟩:=at1 j b hj
  refine⟨(O.drop (i / size*size)).take size,by rw[List.length_take];omega,fun j' hj'=>?_⟩
  obtain⟨i',hi',e⟩:=at1 j' _ hj'
  have e:i' / size=i / size:=by omega
  have a1:=Nat.div_add_mod i' size
  have a2:=Nat.mod_lt i' (show 0<size by omega)
  rw[e,Nat.mul_comm]at a1
  refine List.mem_iff_getElem?.2 ⟨i'-i / size*size,?_⟩
  rw[List.getElem?_take,if_pos (by omega),List.getElem?_drop,show i / size*size+(i'-i / size*size)=i' by omega]
  exact hi'
structure qJg (N:Nat) (size:Nat) (cl:List (List Int)) (out:List Int):Prop where
 len:out.length=N
 at_:∀(i:Nat) (c:List Int),cl[i]?=some c->∀n∈c,out[(n-1).toNat]?=some (i:Int)
theorem qJg.eq{N size:Nat}{cl:List (List Int)}{a b:List Int}(h:qJg N size cl a)(k:qJg N size cl b)(hO:∀x,1<=x->x<=(N:Int)->∃c∈cl,x∈c):a=b:=by
 refine List.ext_getElem? fun j=>?_
 by_cases hj:j<N
 ·obtain⟨c,hc,hx⟩:=hO ((j:Int)+1) (by omega) (by omega)
  obtain⟨i,hi⟩:=List.mem_iff_getElem?.1 hc
  have h1:=h.at_ i _ hi _ hx
  have h2:=k.at_ i _ hi _ hx
  rw[show ((j:Int)+1-1).toNat=j by omega]at h1 h2
  rw[h1,h2]
 ·rw[List.getElem?_eq_none (by rw[h.len];omega),List.getElem?_eq_none (by rw[k.len];omega)]
theorem qJg.plc{N size:Nat}{cl:List (List Int)}{out:List Int}(h:qJg N size cl out)(hO:∀x,1<=x->x<=(N:Int)->∃c∈cl,x∈c)(hs:∀c∈cl,c.length<=size)(hc:cl.length<=N)(hN:N<=4096):Plc out size/\Low out:=by
 have at1:∀(j:Nat) (b:Int),out[j]?=some b->∃(i:Nat) (c:List Int),cl[i]?=some c/\((j:Int)+1)∈c/\b=(i:Int):=fun j b hb=>by
  have hj:j<N:=by rw[<- h.len];exact(List.getElem?_eq_some_iff.1 hb).1
  obtain⟨c,hcm,hx⟩:=hO ((j:Int)+1) (by omega) (by omega)
  obtain⟨i,hi⟩:=List.mem_iff_getElem?.1 hcm
  have h1:=h.at_ i _ hi _ hx
  rw[show ((j:Int)+1-1).toNat=j by omega,hb]at h1
  exact⟨i,c,hi,hx,by injection h1⟩
 refine plc_of h.len hN (fun b hb=>?_) fun b hb=>?_
 ·obtain⟨j,hj⟩:=List.mem_iff_getElem?.1 hb
  obtain⟨i,c,hi,-,rfl⟩:=at1 j b hj
  have:=(List.getElem?_eq_some_iff.1 hi).1
  omega
 ·obtain⟨j,hj⟩:=List.mem_iff_getElem?.1 hb
  obtain⟨i,c,hi,-,rfl⟩:=at1 j b hj
  refine⟨c,hs c (List.mem_of_getElem? hi),fun j' hj'=>?_⟩
  obtain⟨i',c',hi',hx,e⟩:=at1 j' _ hj'
  obtain rfl:i'=i:=by omega
  rw[hi]at hi';cases hi'
  exact hx
end Go.Proofs
namespace Go.Proofs
open Go Go.Sx
def qIW(d:Ds)(m:Mm)(size:Nat)(s:List (List Int))(n:Int):List (List Int):=if n∈s.flatten then s else s++[qCG d m [n] size s.flatten]
def cluP(d:Ds)(m:Mm)(size:Nat)(O:List Int):List (List Int):=O.foldl (qIW d m size) []
structure CluI (N size:Nat) (s:List (List Int)):Prop where
 nds:Nds N s.flatten
 all:∀c∈s,c≠[]/\c.length<=size
theorem CluI.len{N size:Nat}{s:List (List Int)}(h:CluI N size s):s.length<=N:=by
 have h1:∀s:List (List Int),(∀c∈s,c≠[])->s.length<=s.flatten.length:=fun s=>by
  induction s with
  | nil=>intro _;exact Nat.le_refl _
  | cons c s ih =>
   intro h
   have h0:=List.length_pos_iff.2 (h c (by simp))
   have:=ih fun x hx=>h x (by simp[hx])
   rw[List.flatten_cons,List.length_append,List.length_cons];omega
 exact Nat.le_trans (h1 s fun c hc=>(h.all c hc).1) h.nds.len
section
variable{d:Ds}{m:Mm}{size:Nat}
theorem clu_new(hv:qAs d m=true)(hs:1<=size){but:List Int}{n:Int}(hn:1<=n/\n<=(m.nodes.length:Int))(hb:n ∉ but):Nds m.nodes.length (qCG d m [n] size but)/\n∈qCG d m [n] size but/\(∀x∈qCG d m [n] size but,x ∉ but)/\(qCG d m [n] size but).length<=size:=by
 have h:=qHt (most:=size) (but:=but) hv (l:=[n]) (Nds.nil.snoc hn (by simp))
 refine⟨h.nds,h.sub n (by simp),fun x hx=>?_,?_⟩
 ·rcases h.new x hx with h|h
  ·rw[List.mem_singleton.1 h];exact hb
  ·exact h
 ·rcases h.cap with h|h
  ·exact h
  ·rw[List.length_singleton]at h;omega
theorem CluI.step(hv:qAs d m=true)(hs:1<=size){s:List (List Int)}(h:CluI m.nodes.length size s){n:Int}(hn:1<=n/\n<=(m.nodes.length:Int)):CluI m.nodes.length size (qIW d m size s n)/\n∈(qIW d m size s n).flatten/\∀x∈s.flatten,x∈(qIW d m size s n).flatten:=by
 unfold qIW
 by_cases c:n∈s.flatten
 ·rw[if_pos c];exact⟨h,c,fun _ h=>h⟩
 ·rw[if_neg c]
  obtain⟨h1,h2,h3,h4⟩:=clu_new hv hs hn c
  rw[List.flatten_append,List.flatten_singleton]
  refine⟨⟨?_,fun x hx=>?_⟩,by simp[h2],fun x hx=>by simp only[List.mem_append];exact .inl hx⟩
  ·rw[List.flatten_append,List.flatten_singleton]
   refine⟨?_,fun x hx=>?_⟩
   ·rw[List.nodup_append]
    exact⟨h.nds.nd,h1.nd,fun a ha b hb e=>h3 b hb (by rw[<- e];exact ha)⟩
   ·rcases List.mem_append.1 hx with hx|hx
    ·exact h.nds.rng x hx
    ·exact h1.rng x hx
  ·rcases List.mem_append.1 hx with hx|hx
   ·exact h.all x hx
   ·rw[List.mem_singleton.1 hx]
    exact⟨fun e=>(by rw[e]at h2;cases h2),h4⟩
theorem clu_ok(hv:qAs d m=true)(hs:1<=size):∀(O:List Int) (s:List (List Int)),CluI m.nodes.length size s->(∀x∈O,1<=x/\x<=(m.nodes.length:Int))->CluI m.nodes.length size (O.foldl (qIW d m size) s)/\∀x,x∈O∨x∈s.flatten->x∈(O.foldl (qIW d m size) s).flatten
 | [],s,h,_=>⟨h,fun x hx=>hx.resolve_left (by simp)⟩
 | n::O,s,h,ho=>by
  obtain⟨h1,h2,h3⟩:=h.step hv hs (ho n (by simp))
  obtain⟨k1,k2⟩:=clu_ok hv hs O _ h1 fun x hx=>ho x (by simp[hx])
  refine⟨k1,fun x hx=>?_⟩
  rcases hx with hx|hx
  ·rcases List.mem_cons.1 hx with rfl|hx
   ·exact k2 _ (.inr h2)
   ·exact k2 _ (.inl hx)
  ·exact k2 _ (.inr (h3 x hx))
def qBA(d:Ds)(m:Mm):List Int:=qGz (qFR d m).order m.nodes.length
def firstP(d:Ds)(m:Mm):List Int:=(tgt d.globals m.globals).foldl (qDv (m.nodes.length+1) []) []
def qIQ(d:Ds)(m:Mm):List Int:=qGz (qCG d m (firstP d m) m.nodes.length []) m.nodes.length
def qBX(d:Ds)(m:Mm)(k:Int):List Int:=if k=1 then qGz [] m.nodes.length else if k=2 then qBA d m else qIQ d m
theorem qFy(hv:qAs d m=true):Nds m.nodes.length (qBA d m)/\∀x,1<=x->x<=(m.nodes.length:Int)->x∈qBA d m :=
 qKj ⟨(qHy hv).dup,(qHy hv).rng⟩
theorem first_spr(hv:qAs d m=true):Spr m.nodes.length (m.nodes.length+1) [] [] (firstP d m):=(Spr.refl Nds.nil).fold _ _ (qGV hv).1
theorem qHD(hv:qAs d m=true)(k:Int):Nds m.nodes.length (qBX d m k)/\∀x,1<=x->x<=(m.nodes.length:Int)->x∈qBX d m k:=by
 unfold qBX
 split
 ·exact qKj Nds.nil
 ·split
  ·exact qFy hv
  ·exact qKj (qHt hv (first_spr hv).nds).nds
def qAQ(d:Ds)(m:Mm)(k:Int)(size:Nat)(out:List Int):Prop:=if k<4 then qEG m.nodes.length (qBX d m k) size out else qJg m.nodes.length size (cluP d m size (qBA d m)) out
theorem place_eq(hv:qAs d m=true)(hs:1<=size){k:Int}{a b:List Int}(h:qAQ d m k size a)(h':qAQ d m k size b):a=b:=by
 unfold qAQ at h h'
 split at h
 ·rename_i c
  rw[if_pos c]at h'
  exact h.eq h' (qHD hv k).2
 ·rename_i c
  rw[if_neg c]at h'
  refine h.eq h' fun x h1 h2=>?_
  obtain⟨-,k2⟩:=clu_ok hv hs (qBA d m) [] ⟨Nds.nil,by simp⟩ (qFy hv).1.rng
  have:=k2 x (.inl ((qFy hv).2 x h1 h2))
  obtain⟨c,h1,h2⟩:=List.mem_flatten.1 this
  exact⟨c,h1,h2⟩
theorem place_plc(hv:qAs d m=true)(hs:1<=size){k:Int}{a:List Int}(h:qAQ d m k size a):Plc a size/\Low a/\a.length=m.nodes.length:=by
 have hN:=(qAh hv).2.1
 unfold qAQ at h
 split at h
 ·obtain⟨h1,h2⟩:=qHD hv k
  exact⟨(h.plc h2 h1 hs hN).1,(h.plc h2 h1 hs hN).2,h.len⟩
 ·obtain⟨k1,k2⟩:=clu_ok hv hs (qBA d m) [] ⟨Nds.nil,by simp⟩ (qFy hv).1.rng
  have:=h.plc (fun x h1 h2=>List.mem_flatten.1 (k2 x (.inl ((qFy hv).2 x h1 h2)))) (fun c hc=>(k1.all c hc).2) k1.len hN
  exact⟨this.1,this.2,h.len⟩
end
end Go.Proofs
namespace Go.Proofs
open Go Go.Sx
attribute [local irreducible] Go.Sx.Tri
section
variable{V:Mem}{d:Ds}{m:Mm}
def TgtP(V:Mem)(xs:List Int):Ending->Mem->Prop:=fun e V'=>∃s:Sl,e=.returned s.v/\Sx.Own V V' 3 1 s (xs.flatMap qAd)
theorem tgt_len(fs:List Fld)(vs:List Int)(i:Nat):(qJX fs vs i).length<=fs.length:=by
 unfold qJX
 rw[List.length_map]
 refine Nat.le_trans (List.length_filter_le _ _) ?_
 rw[List.length_take,List.length_zip];omega
theorem qKl{fs:List Fld}{vs:List Int}(h:qAg d m fs vs=true){i:Nat}{f:Fld}{v:Int}(hf:fs[i]?=some f)(hv:vs[i]?=some v)(hp:qBR f.ty=false):qCw (f,v)=decide (0<v):=by
 unfold qCw
 rw[hp]
 by_cases c:v=0
 ·simp[c]
 ·have:=qJw h hf hv hp c
  simp[c];omega
theorem c133{fl vl:Sl}{fs:List Fld}{vs:List Int}(hl:qAc V fl 2 (fs.map Fld.row))(hv:qAc V vl 1 (vs.map qAd))(h:qAg d m fs vs=true)(hb:fs.length<=4096):Tri Tryz.prog 133 #[fl.v,vl.v] V (TgtP V (tgt fs vs)):=by
 obtain⟨R,hR⟩:∃R,R=TgtP V (tgt fs vs):=⟨_,rfl⟩
 rw[<- hR]
 refine x133 ?_
 unfold w133
 have he:=qJm h
 refine qFd (mk:=fun s:Sl=>.slice s.p s.n s.c) (b0:=⟨none,0,0⟩) qBk fs.length (fun i s V1=>Sx.Own V V1 3 1 s ((qJX fs vs i).flatMap qAd)) (Own.nil (Mem.sub.refl _) _ _) ?_
 rintro i s V1 J hi o hJ
 have hl1:=hl.sub o.sub
 have hv1:=hv.sub o.sub
 refine⟨fun hlt=>?_,fun hge=>?_⟩
 ·obtain⟨f,-,hf,-,hil,hp,hz,hrow⟩:=hl1.get hlt
  have hx:=List.getElem?_eq_getElem (l:=vs) (i:=i) (by omega)
  obtain⟨x,hxd⟩:∃x,x=vs[i]'(by omega):=⟨_,rfl⟩
  rw[<- hxd]at hx
  obtain⟨p1,p2,p3,p4⟩:=qCj hv1 hx
  have e:=qDA hf hx
  have hsu:=hl1.succ hlt
  have stay:qCw (f,x)=false->J [.slice s.p s.n s.c,.int .i64 ((i:Int)+1)] V1:=fun hr=>hJ hil s _ (by rw[e,hr];simpa using o)
  have pl:qBR f.ty=true->qCw (f,x)=false:=fun h=>by unfold qCw;rw[h];rfl
  refine⟨hp,hz,hlt,_,_,hrow,fun c=>⟨hsu,stay (pl (qHA (.inl c)))⟩,fun c1=>⟨fun c=>⟨hsu,stay (pl (qHA (.inr c)))⟩,fun c2=>⟨p1,p2,p3,_,p4,fun c=>?_,fun c=>⟨hsu,stay ?_⟩⟩⟩⟩
  all_goals
   have hpl:qBR f.ty=false:=by
    have c1:¬f.ty=qAW:=c1
    have c2:¬f.ty=qAu:=c2
    unfold qBR;simp[c1,c2]
  ·have hr:qCw (f,x)=true:=by rw[qKl h hf hx hpl];exact decide_eq_true c
   refine⟨p1,p2,p3,_,p4,fun b hb1=>?_⟩
   have hle:=tgt_len fs vs i
   refine oneG (row:=qAd) qDb (x:=x) (s:=s) o hb1 (by omega) rfl rfl (fun _=>rfl) fun s' V' o'=>?_
   exact⟨s',rfl,hsu,hJ hil s' _ (by rw[e,hr];exact o')⟩
  ·rw[qKl h hf hx hpl];exact decide_eq_false c
 ·rw[qHu (hl1.done hge).2]at o
  rw[hR];exact⟨s,rfl,o⟩
theorem c88{fl vl:Sl}{fs:List Fld}{vs:List Int}(hl:qAc V fl 2 (fs.map Fld.row))(hv:qAc V vl 1 (vs.map qAd))(h:qAg d m fs vs=true)(hb:fs.length<=4096):Tri Tryz.prog 88 #[fl.v,vl.v] V (TgtP V (tgt fs vs)):=by
 obtain⟨R,hR⟩:∃R,R=TgtP V (tgt fs vs):=⟨_,rfl⟩
 rw[<- hR]
 refine x88 ?_
 unfold w88
 have he:=qJm h
 refine qFd (mk:=fun s:Sl=>.slice s.p s.n s.c) (b0:=⟨none,0,0⟩) qBk fs.length (fun i s V1=>Sx.Own V V1 3 1 s ((qJX fs vs i).flatMap qAd)) (Own.nil (Mem.sub.refl _) _ _) ?_
 rintro i s V1 J hi o hJ
 have hl1:=hl.sub o.sub
 have hv1:=hv.sub o.sub
 refine⟨fun hlt=>?_,fun hge=>?_⟩
 ·obtain⟨f,-,hf,-,hil,hp,hz,hrow⟩:=hl1.get hlt
  have hx:=List.getElem?_eq_getElem (l:=vs) (i:=i) (by omega)
  obtain⟨x,hxd⟩:∃x,x=vs[i]'(by omega):=⟨_,rfl⟩
  rw[<- hxd]at hx
  obtain⟨p1,p2,p3,p4⟩:=qCj hv1 hx
  have e:=qDA hf hx
  have hsu:=hl1.succ hlt
  have hpq:=qAf (n:=i*2) hp
  have stay:qCw (f,x)=false->J [.slice s.p s.n s.c,.int .i64 ((i:Int)+1)] V1:=fun hr=>hJ hil s _ (by rw[e,hr];simpa using o)
  have pl:qBR f.ty=true->qCw (f,x)=false:=fun h=>by unfold qCw;rw[h];rfl
  refine⟨hp,hz,hlt,hpq,_,_,hrow,fun c=>⟨hsu,stay (pl (qHA (.inl c)))⟩,fun c1=>⟨hp,hz,hlt,hpq,_,_,hrow,fun c=>⟨hsu,stay (pl (qHA (.inr c)))⟩,fun c2=>⟨p1,p2,p3,_,p4,fun c=>?_,fun c=>⟨hsu,stay ?_⟩⟩⟩⟩
  all_goals
   have hpl:qBR f.ty=false:=by
    have c1:¬f.ty=qAW:=c1
    have c2:¬f.ty=qAu:=c2
    unfold qBR;simp[c1,c2]
  ·have hr:qCw (f,x)=true:=by rw[qKl h hf hx hpl];exact decide_eq_true c
   refine⟨p1,p2,p3,_,p4,fun b hb1=>?_⟩
   have hle:=tgt_len fs vs i
   refine oneG (row:=qAd) qDb (x:=x) (s:=s) o hb1 (by omega) rfl rfl (fun _=>rfl) fun s' V' o'=>?_
   exact⟨s',rfl,hsu,hJ hil s' _ (by rw[e,hr];exact o')⟩
  ·rw[qKl h hf hx hpl];exact decide_eq_false c
 ·rw[qHu (hl1.done hge).2]at o
  rw[hR];exact⟨s,rfl,o⟩
theorem c49{l:Sl}{xs:List Int}{x:Int}(hl:qAc V l 1 (xs.map qAd)):PP 49 [l.v,.int .i64 x] V (.bool (decide (x∈xs))):=by
 refine x49 ?_
 unfold w49
 refine qAJ (mk:=.bool) (b0:=false) xs.length (fun i V1=>V1=V/\x ∉ xs.take i) ⟨rfl,by simp⟩ ?_
 rintro i b V1 J hi ⟨rfl,hno⟩ hJ
 refine⟨fun hlt=>?_,fun hge=>?_⟩
 ·obtain⟨y,hym,hy,-,hil,hp,hz,hrow⟩:=hl.get hlt
  refine⟨hp,hz,hlt,_,hrow,fun c=>?_,fun c=>⟨hl.succ hlt,hJ hil _ _ ⟨rfl,?_⟩⟩⟩
  ·have c:y=x:=c
   rw[decide_eq_true (by rw[<- c];exact hym)];exact⟨rfl,rfl⟩
  ·have c:¬y=x:=c
   rw[qAO hy,List.mem_append,List.mem_singleton,not_or]
   exact⟨hno,fun e=>c e.symm⟩
 ·rw[List.take_of_length_le (hl.done hge).2]at hno
  rw[decide_eq_false hno];exact⟨rfl,rfl⟩
theorem node_at(hmv:qAs d m=true)(hd:Ds.Ok V d)(hm:Mm.Ok V m){n:Int}(hn:1<=n/\n<=(m.nodes.length:Int)):∃(x:Nd) (t:Ty) (j:Nat),m.nodes[(n-1).toNat]?=some x/\x.ty=(j:Int)/\d.types[j]?=some t/\qAq d x.ty=t.fields/\qAx d m n=tgt t.fields x.f/\qAg d m t.fields x.f=true /\
  ¬m.ns.p=none/\(n-1)<(m.ns.n:Int)/\V.rowp m.ns.p ((n-1).toNat*2) 2=some x.row/\¬d.ts.p=none/\(j:Int)<(d.ts.n:Int)/\V.rowp d.ts.p (j*2) 2=some t.row/\qAc V t.fs 2 (t.fields.map Fld.row)/\qAc V x.sl 1 (x.f.map qAd):=by
 obtain⟨p1,p2,p3,p4,p5⟩:=qAh hmv
 obtain⟨q,hq⟩:∃q:Nat,n-1=(q:Int):=⟨(n-1).toNat,by omega⟩
 have hql:q<m.nodes.length:=by omega
 have hx:=List.getElem?_eq_getElem hql
 obtain⟨x,hxd⟩:∃x,x=m.nodes[q]:=⟨_,rfl⟩
 rw[<- hxd]at hx
 have hxm:=List.mem_of_getElem? hx
 have hty:=of_decide_eq_true (p3 x hxm)
 obtain⟨j,hj⟩:∃j:Nat,x.ty=(j:Int):=⟨x.ty.toNat,by omega⟩
 have hjl:j<d.types.length:=by omega
 have ht:=List.getElem?_eq_getElem hjl
 obtain⟨t,htd⟩:∃t,t=d.types[j]:=⟨_,rfl⟩
 rw[<- htd]at ht
 have hfo:qAq d x.ty=t.fields:=by rw[hj];exact qAS ht rfl
 have n1:=hm.nodes.n_eq
 have n2:=hd.types.n_eq
 obtain⟨y,-,hy,-,-,a1,a2,a3⟩:=hm.nodes.get (i:=q) (by omega)
 rw[hx]at hy;cases hy
 obtain⟨y,-,hy,-,-,b1,b2,b3⟩:=hd.types.get (i:=j) (by omega)
 rw[ht]at hy;cases hy
 rw[hq,Int.toNat_natCast]
 refine⟨x,t,j,hx,hj,ht,hfo,?_,by rw[<- hfo];exact p5 x hxm,a1,by omega,a3,b1,by omega,b3,(hd.typesOk t (List.mem_of_getElem? ht)).fields,(hm.nodesOk x hxm).rows⟩
 unfold qAx
 rw[hq,Int.toNat_natCast,hx]
 show tgt (qAq d x.ty) x.f=_
 rw[hfo]
theorem c134(hv:qAz d=true)(hmv:qAs d m=true)(hd:Ds.Ok V d)(hm:Mm.Ok V m){n:Int}(hn:1<=n/\n<=(m.nodes.length:Int)):Tri Tryz.prog 134 #[d.v,m.v,.int .i64 n] V (TgtP V (qAx d m n)):=by
 refine x134 ?_
 unfold w134
 obtain⟨x,t,j,h1,h2,h3,h4,h5,h6,a1,a2,a3,b1,b2,b3,k1,k2⟩:=node_at hmv hd hm hn
 have hlen:=(qKz hv).2 t (List.mem_of_getElem? h3)
 have hNn:=hm.nodes.n_eq
 have hc:=hm.nodes.cap
 have hf:=hm.nodes.fit
 refine⟨⟨by omega,by omega⟩,a1,by omega,a2,_,_,a3,?_⟩
 rw[h2,Int.toNat_natCast]
 refine⟨b1,by omega,b2,qAf b1,_,_,b3,Tri.mono (c133 k1 k2 h6 (by omega)) ?_⟩
 rintro _ V1 ⟨s,rfl,o⟩
 rw[h5]
 exact⟨s,rfl,s,rfl,o⟩
theorem c89(hv:qAz d=true)(hmv:qAs d m=true)(hd:Ds.Ok V d)(hm:Mm.Ok V m){n:Int}(hn:1<=n/\n<=(m.nodes.length:Int)):Tri Tryz.prog 89 #[d.v,m.v,.int .i64 n] V (TgtP V (qAx d m n)):=by
 refine x89 ?_
 unfold w89
 obtain⟨x,t,j,h1,h2,h3,h4,h5,h6,a1,a2,a3,b1,b2,b3,k1,k2⟩:=node_at hmv hd hm hn
 have hlen:=(qKz hv).2 t (List.mem_of_getElem? h3)
 have hNn:=hm.nodes.n_eq
 have hc:=hm.nodes.cap
 have hf:=hm.nodes.fit
 refine⟨⟨by omega,by omega⟩,a1,by omega,a2,_,_,a3,?_⟩
 rw[h2,Int.toNat_natCast]
 refine⟨b1,by omega,b2,qAf b1,_,_,b3,Tri.mono (c88 k1 k2 h6 (by omega)) ?_⟩
 rintro _ V1 ⟨s,rfl,o⟩
 rw[h5]
 exact⟨s,rfl,s,rfl,o⟩
end
def qCY(b:Bool):List Value:=[.bool b]
theorem qDG(l:List Bool):l.flatMap qCY=l.map Value.bool:=by
 induction l with
 | nil=>rfl
 | cons a l ih=>rw[List.flatMap_cons,ih];rfl
theorem qIB(l:List Bool)(i:Nat)(x:Bool):(l.flatMap qCY).set i (.bool x)=(l.set i x).flatMap qCY:=by rw[qDG,qDG,List.map_set]
theorem qIC(l:List Bool):(l.flatMap qCY).length=l.length:=by rw[qDG,List.length_map]
theorem bool_at{V:Mem}{s:Sl}{xs:List Bool}(h:qAc V s 1 (xs.map qCY)){i:Nat}{x:Bool}(hx:xs[i]?=some x):¬s.p=none/\(0:Int)<=(i:Int)/\(i:Int)<(s.n:Int)/\V.rowp s.p (i*1) 1=some [.bool x]:=by
 have hn:=h.n_eq
 have hl:=(List.getElem?_eq_some_iff.1 hx).1
 obtain⟨y,-,hy,-,-,h1,h2,h3⟩:=h.get (i:=i) (by omega)
 rw[hx]at hy;cases hy
 exact⟨h1,h2,by omega,h3⟩
theorem rows_same{V V':Mem}{g n c sz:Nat}{rows:List (List Value)}(h:qAc V ⟨some ⟨g,0,none⟩,n,c⟩ sz rows)(e:V' g=V g):qAc V' ⟨some ⟨g,0,none⟩,n,c⟩ sz rows:=⟨h.len,h.cap,h.fit,h.size,fun i r hr=>by
 obtain⟨a,h1,h2⟩:=h.at_ i r hr
 cases h1
 refine⟨_,rfl,?_⟩
 have hb:((⟨g,0,none⟩:Addr).add (i*sz)).block=g:=by unfold Addr.add;split <;> rfl
 unfold Mem.row at h2 ⊢
 rw[hb]at h2 ⊢
 rw[e];exact h2⟩
section
variable{V0 V:Mem}{d:Ds}{m:Mm}{N:Nat}{xs:List Int}{l:Sl}
theorem madeB(n:Nat):(madeCells (Value.bool false).cells n).toList=(List.replicate n false).map Value.bool:=by
 have hc:(Value.bool false).cells=#[Value.bool false]:=by rfl
 rw[hc,List.map_replicate]
 unfold madeCells
 refine List.ext_getElem? fun j=>?_
 grind
theorem qIj{g n:Nat}(hg:V g=none)(hn:n<=2147483648):Sx.Own V (V.set g (.cells (madeCells (Value.bool false).cells (n*1)) 4 (0,0))) 4 1 ⟨some ⟨g,0,none⟩,n,n⟩ ((List.replicate n false).flatMap qCY):=by
 have e:(madeCells (Value.bool false).cells (n*1)).toList=(List.replicate n false).flatMap qCY:=by rw[Nat.mul_one,madeB,qDG]
 refine⟨Mem.sub_new hg _,by rw[qDG];simp,.inr ⟨g,_,rfl,hg,Mem.set_same _ _ _,Nat.le_refl _,by simp only[maxLen];omega,by rw[size_madeCells],?_⟩⟩
 rw[e,List.take_of_length_le (by rw[qDG];simp)]
theorem mk162{ty:Nat}{x y:Operand}{vals:Operand->Value}{n:Nat}(hx:vals x=.int .i64 n)(hy:vals y=.int .i64 n)(hn:n<=2147483648){q:Value->Mem->Prop}(hq:∀g,V g=none->q (.slice (sa g) n n) (V.set g (.cells (madeCells (Value.bool false).cells (n*1)) 4 (0,0)))):GenK Tryz.prog (.makeSlice 162 x y) ty vals V q :=
 GenK.make (z:=.bool false) (i:=ti 4) Tryz.underlying162 (by kernel_rfl) (by kernel_rfl) (by kernel_rfl) (of_decide_eq_true (by kernel_rfl)) hx hy hn hq
def selN(xs:List Int)(j:Nat):List Int:=((List.range j).map fun i:Nat=>(i:Int)+1).filter fun x=>decide (x ∉ xs)
theorem sel_succ(j:Nat):selN xs (j+1)=selN xs j++if ((j:Int)+1)∈xs then [] else [(j:Int)+1]:=by
 unfold selN
 rw[List.range_succ,List.map_append,List.filter_append]
 congr 1
 by_cases c:((j:Int)+1)∈xs
 ·simp[c]
 ·simp[c]
theorem sel_len(j:Nat):(selN xs j).length<=j:=by
 unfold selN
 refine Nat.le_trans (List.length_filter_le _ _) ?_
 simp
theorem rest_sel:qGz xs N=xs++selN xs N:=rfl
theorem push_blk{W V V1:Mem}{s s':Sl}{ys zs:List Value}(o:Sx.Own W V 3 1 s ys)(h:Sx.Own (V.but s) V1 3 1 s' zs){g:Nat}(hg:V g≠none)(hn:¬Blk s g):Sx.Own W V1 3 1 s' zs/\V1 g=V g/\¬Blk s' g:=by
 obtain⟨h1,h2,h3⟩:=qDS o h
 exact⟨h1,h2 g hn hg,fun hb=>(h3 g hb).elim hn hg⟩
theorem c80(ho:Sx.Own V0 V 3 1 l (xs.flatMap qAd))(hx:Nds N xs)(hN:N<=4096)(hns:m.ns.n=N):Tri Tryz.prog 80 #[m.v,l.v] V fun e V'=>∃s:Sl,e=.returned s.v/\Sx.Own V0 V' 3 1 s ((qGz xs N).flatMap qAd):=by
 obtain⟨R,hR⟩:∃R:Ending->Mem->Prop,R=fun e V'=>∃s:Sl,e=.returned s.v/\Sx.Own V0 V' 3 1 s ((qGz xs N).flatMap qAd):=⟨_,rfl⟩
 rw[<- hR]
 refine x80 ?_
 unfold w80
 rw[hns]
 have hxl:=hx.len
 refine⟨⟨by omega,by omega⟩,mk162 (n:=N+1) rfl rfl (by omega) fun g hg=>⟨⟨some ⟨g,0,none⟩,N+1,N+1⟩,rfl,?_⟩⟩
 have C0:=qIj hg (n:=N+1) (by omega)
 obtain⟨V1,hV1⟩:∃V1,V1=V.set g (.cells (madeCells ((Value.bool false).cells) ((N+1)*1)) 4 (0,0)):=⟨_,rfl⟩
 rw[<- hV1]at C0 ⊢
 have hlr:=ho.rows (row:=qAd) (xs:=xs) (fun _=>rfl) (by decide)
 refine qJb xs.length (fun i V2=>∃F:List Bool,Sx.Own V V2 4 1 ⟨some ⟨g,0,none⟩,N+1,N+1⟩ (F.flatMap qCY)/\F.length=N+1/\∀j:Nat,j<N+1->F[j]?=some (decide ((j:Int)∈xs.take i))) ⟨_,C0,List.length_replicate,fun j hj=>by rw[List.getElem?_replicate,if_pos hj,List.take_zero];rfl⟩ ?_
 rintro i V2 J hi ⟨F,hF,hFl,hFa⟩ hJ
 have hl2:=hlr.sub hF.sub
 refine⟨fun hlt=>?_,fun hge=>?_⟩
 ·obtain⟨x,hxm,hxi,-,hil,hp,hz,hrow⟩:=hl2.get hlt
  have hr:=hx.rng x hxm
  obtain⟨q,rfl⟩:∃q:Nat,x=(q:Int):=⟨x.toNat,by omega⟩
  refine⟨hp,hz,hlt,_,hrow,nn,by omega,by show (q:Int)<((N+1:Nat):Int);omega,?_⟩
  show StT (qAa (sa g) (q*1)) 0 _ _ _
  rw[Nat.mul_one]
  refine Own.store (s:=⟨some ⟨g,0,none⟩,N+1,N+1⟩) hF (i:=q) (by rw[qIC];omega) fun V3 hF3 _=>?_
  rw[qIB]at hF3
  refine⟨hl2.succ hlt,hJ hil _ ⟨_,hF3,by simp[hFl],fun j hj=>?_⟩⟩
  rw[qAO hxi]
  by_cases c:q=j
  ·subst c
   rw[List.getElem?_set_self (by omega)]
   simp
  ·rw[List.getElem?_set_ne c,hFa j hj]
   congr 1
   have:¬(j:Int)=(q:Int):=by omega
   simp[this]
 ·have hd:=(hl2.done hge).2
  rw[List.take_of_length_le hd]at hFa
  have hFr:=hF.rows (row:=qCY) (xs:=F) (fun _=>rfl) (by decide)
  have hgV:V2 g≠none:=by
   obtain⟨cur,hc⟩:=Own.some (c:=g) hF ⟨by simp,rfl⟩
   rw[hc];simp
  have hbl:¬Blk l g:=fun hb=>by
   obtain⟨cur,hc⟩:=Own.some ho hb
   rw[hg]at hc;cases hc
  refine⟨fun n ys V3=>∃(j:Nat) (s:Sl),ys=[s.v,.int .i64 ((j:Int)+1)]/\j<=N/\n=N-j/\Sx.Own V0 V3 3 1 s ((xs++selN xs j).flatMap qAd)/\V3 g=V2 g/\¬Blk s g,N,⟨0,l,rfl,Nat.zero_le _,rfl,by rw[show selN xs 0=[] from rfl,List.append_nil];exact Own.growS ho hF.sub,rfl,hbl⟩,?_⟩
  rintro n V3 v5 v6 ⟨j,s,hys,hj,rfl,os,hg3,hbs⟩ J hJ
  simp only[List.cons.injEq,Value.int.injEq,true_and,and_true]at hys
  obtain⟨h5,rfl⟩:=hys
  cases qBk _ _ h5
  have hF3:=rows_same hFr hg3
  refine⟨fun hlt=>?_,fun hge=>?_⟩
  ·have hlt:(j:Int)+1<((N+1:Nat):Int):=hlt
   obtain⟨b1,b2,b3,b4⟩:=bool_at hF3 (hFa (j+1) (by omega))
   have e:=sel_succ (xs:=xs) j
   have hsl:=sel_len (xs:=xs) j
   refine⟨b1,by omega,hlt,_,b4,fun c=>⟨⟨by omega,by omega⟩,hJ (N-(j+1)) _ _ (by omega) ⟨j+1,v5,rfl,by omega,rfl,?_,hg3,hbs⟩⟩,fun c b hb=>?_⟩
   ·have c:((j:Int)+1)∈xs:=of_decide_eq_true c
    rw[e,if_pos c,List.append_nil];exact os
   ·have c:¬((j:Int)+1)∈xs:=fun h=>c (decide_eq_true h)
    refine oneG (row:=qAd) qDb (x:=(j:Int)+1) (s:=v5) os.but hb (by rw[List.length_append];omega) rfl rfl (fun _=>rfl) fun s' V' o'=>?_
    obtain⟨k1,k2,k3⟩:=push_blk os o' (g:=g) (by rw[hg3];exact hgV) hbs
    refine⟨s',rfl,⟨by omega,by omega⟩,hJ (N-(j+1)) _ _ (by omega) ⟨j+1,s',rfl,by omega,rfl,?_,k2.trans hg3,k3⟩⟩
    rw[e,if_neg c,<- List.append_assoc];exact k1
  ·have hge:¬(j:Int)+1<((N+1:Nat):Int):=hge
   obtain rfl:j=N:=by omega
   rw[hR,rest_sel]
   exact⟨v5,rfl,os⟩
theorem c86(hl:qAc V l 1 (xs.map qAd))(hx:Nds N xs)(hN:N<=4096):Tri Tryz.prog 86 #[l.v,.int .i64 N] V fun e V'=>∃s:Sl,e=.returned s.v/\Sx.Own V V' 3 1 s ((qGz xs N).flatMap qAd):=by
 obtain⟨R,hR⟩:∃R:Ending->Mem->Prop,R=fun e V'=>∃s:Sl,e=.returned s.v/\Sx.Own V V' 3 1 s ((qGz xs N).flatMap qAd):=⟨_,rfl⟩
 rw[<- hR]
 refine x86 ?_
 unfold w86
 have hxl:=hx.len
 intro b0 hb0
 refine copyInt hb0 hl (by omega) rfl rfl fun s0 V2 o0=>⟨s0,rfl,?_⟩
 refine⟨fun n ys V3=>∃(j:Nat) (s:Sl),ys=[s.v,.int .i64 ((j:Int)+1)]/\j<=N/\n=N-j/\Sx.Own V V3 3 1 s ((xs++selN xs j).flatMap qAd),N,⟨0,s0,rfl,Nat.zero_le _,rfl,by rw[show selN xs 0=[] from rfl,List.append_nil];exact o0⟩,?_⟩
 rintro n V3 v5 v6 ⟨j,s,hys,hj,rfl,os⟩ J hJ
 simp only[List.cons.injEq,Value.int.injEq,true_and,and_true]at hys
 obtain⟨h5,rfl⟩:=hys
 cases qBk _ _ h5
 refine⟨fun hlt=>?_,fun hge=>?_⟩
 ·have hlt:(j:Int)+1<=(N:Int):=hlt
  have e:=sel_succ (xs:=xs) j
  have hsl:=sel_len (xs:=xs) j
  refine(c49 (x:=(j:Int)+1) (hl.sub os.sub)).call ⟨_,rfl,fun c=>⟨⟨by omega,by omega⟩,hJ (N-(j+1)) _ _ (by omega) ⟨j+1,v5,rfl,by omega,rfl,?_⟩⟩,fun c b hb=>?_⟩
  ·have c:((j:Int)+1)∈xs:=of_decide_eq_true c
   rw[e,if_pos c,List.append_nil];exact os
  ·have c:¬((j:Int)+1)∈xs:=fun h=>c (decide_eq_true h)
   refine oneG (row:=qAd) qDb (x:=(j:Int)+1) (s:=v5) os hb (by rw[List.length_append];omega) rfl rfl (fun _=>rfl) fun s' V' o'=>?_
   refine⟨s',rfl,⟨by omega,by omega⟩,hJ (N-(j+1)) _ _ (by omega) ⟨j+1,s',rfl,by omega,rfl,?_⟩⟩
   rw[e,if_neg c,<- List.append_assoc];exact o'
 ·have hge:¬(j:Int)+1<=(N:Int):=hge
  obtain rfl:j=N:=by omega
  rw[hR,rest_sel]
  exact⟨v5,rfl,os⟩
end
theorem ntBool:∀(cur r:Array Value),Obj.cells cur 3 (0,0)≠Obj.cells r 4 (0,0):=fun _ _ h=>by
 have:=Obj.cells.inj h
 exact absurd this.2.1 (by decide)
structure Two (V0 V:Mem) (l gs:Sl) (xs:List Int) (F:List Bool):Prop where
 ol:Sx.Own V0 V 3 1 l (xs.flatMap qAd)
 og:Sx.Own V0 V 4 1 gs (F.flatMap qCY)
structure Thr (V0 V:Mem) (l gs q:Sl) (xs:List Int) (F:List Bool) (ys:List Int):Prop where
 two:Two V0 V l gs xs F
 oq:Sx.Own (fun _=>none) V 3 1 q (ys.flatMap qAd)
 ql:∀c,Blk q c->¬Blk l c
def qDO(N:Nat)(F:List Bool)(but xs:List Int):Prop:=F.length=N+1/\∀j:Nat,j<N+1->F[j]?=some (decide ((j:Int)∈but∨(j:Int)∈xs))
section
variable{V0 V V':Mem}{l gs q:Sl}{xs ys but:List Int}{F:List Bool}{N:Nat}
theorem Two.apart(h:Two V0 V l gs xs F){c:Nat}(hg:Blk gs c):¬Blk l c:=fun hl=>by
 obtain⟨c1,h1⟩:=Own.some h.og hg
 obtain⟨c2,h2⟩:=Own.some h.ol hl
 rw[h1]at h2
 exact ntBool c2 c1 (Option.some.inj h2).symm
theorem Two.grow(h:Two V0 V l gs xs F)(hs:V.sub V'):Two V0 V' l gs xs F:=⟨Own.growS h.ol hs,Own.growS h.og hs⟩
theorem Thr.apart(h:Thr V0 V l gs q xs F ys){c:Nat}(hg:Blk q c):¬Blk gs c:=fun hl=>by
 obtain⟨c1,h1⟩:=Own.some h.two.og hl
 obtain⟨c2,h2⟩:=Own.some h.oq hg
 rw[h1]at h2
 exact ntBool c2 c1 (Option.some.inj h2).symm
theorem Thr.mk'(h:Two V0 V l gs xs F)(hs:V.sub V')(o:Sx.Own V V' 3 1 q (ys.flatMap qAd)):Thr V0 V' l gs q xs F ys:=⟨h.grow hs,o.narrow (fun c x h=>by cases h),fun c hc hl=>by
 have h0:=Own.none0 o hc
 obtain⟨c2,h2⟩:=Own.some h.ol hl
 rw[h0]at h2;cases h2⟩
theorem Thr.push(h:Thr V0 V l gs q xs F ys){l':Sl}{x:Int}(o:Sx.Own (V.but l) V' 3 1 l' ((xs++[x]).flatMap qAd)):Thr V0 V' l' gs q (xs++[x]) F ys:=by
 obtain⟨h1,h2,h3⟩:=qDS h.two.ol o
 refine⟨⟨h1,Own.moveB h.two.og h1.sub fun g cur hg hc=>?_⟩,Own.moveB h.oq (fun c x h=>by cases h) fun g cur hg hc=>?_,fun c hc hl=>?_⟩
 ·rw[h2 g (h.two.apart hg) (by rw[hc];simp)];exact hc
 ·rw[h2 g (h.ql g hg) (by rw[hc];simp)];exact hc
 ·rcases h3 c hl with hb|hb
  ·exact h.ql c hc hb
  ·obtain⟨cur,hcur⟩:=Own.some h.oq hc
   rw[hb]at hcur;cases hcur
theorem Thr.mark(h:Thr V0 V l gs q xs F ys){j:Nat}(hj:j<F.length){Q:Mem->Prop}(hq:∀V',Thr V0 V' l gs q xs (F.set j true) ys->Q V'):StT (qAa gs.p (j*1)) 0 [.bool true] V Q:=by
 rw[Nat.mul_one]
 refine Own.store h.two.og (i:=j) (by rw[qIC];exact hj) fun V' o hk=>hq V' ?_
 rw[qIB]at o
 exact⟨⟨Own.moveB h.two.ol o.sub fun g cur hg hc=>by rw[hk g fun hb=>h.two.apart hb hg];exact hc,o⟩,Own.moveB h.oq (fun c x h=>by cases h) fun g cur hg hc=>by rw[hk g (h.apart hg)];exact hc,h.ql⟩
theorem qDO.mark(h:qDO N F but xs){j:Nat}(hj:j<N+1):qDO N (F.set j true) but (xs++[(j:Int)]):=by
 refine⟨by rw[List.length_set];exact h.1,fun i hi=>?_⟩
 by_cases c:j=i
 ·subst c
  rw[List.getElem?_set_self (by rw[h.1];exact hj)]
  simp
 ·rw[List.getElem?_set_ne c,h.2 i hi]
  have:¬(i:Int)=(j:Int):=by omega
  simp[this]
theorem addStep{d:Ds}{most:Nat}{y:Int}(T:Thr V0 V l gs q xs F ys)(hF:qDO N F but xs)(hx:Nds N xs)(hN:N<=4096)(hgs:∃g,gs=⟨some ⟨g,0,none⟩,N+1,N+1⟩)(hy:1<=y/\y<=(N:Int)){J:Sl->List Int->List Bool->Mem->Prop} :
  (¬gs.p=none/\0<=y/\y<(gs.n:Int))/\V.rowp gs.p (y.toNat*1) 1=some [.bool (decide (y∈but∨y∈xs))]:=by
 obtain⟨g,rfl⟩:=hgs
 obtain⟨j,rfl⟩:∃j:Nat,y=(j:Int):=⟨y.toNat,by omega⟩
 obtain⟨b1,b2,b3,b4⟩:=bool_at (T.two.og.rows (fun _=>rfl) (by decide)) (hF.2 j (by omega))
 exact⟨⟨b1,b2,b3⟩,b4⟩
end
section
variable{V0 V:Mem}{d:Ds}{m:Mm}{l gs:Sl}{xs but:List Int}{F:List Bool}{most:Nat}
theorem c83(hv:qAz d=true)(hmv:qAs d m=true)(hd:Ds.Ok V0 d)(hm:Mm.Ok V0 m)(T:Two V0 V l gs xs F)(hF:qDO m.nodes.length F but xs)(hx:Nds m.nodes.length xs)(hgs:∃g,gs=⟨some ⟨g,0,none⟩,m.nodes.length+1,m.nodes.length+1⟩) :
  Tri Tryz.prog 83 #[d.v,m.v,l.v,gs.v,.int .i64 most] V fun e V'=>∃s:Sl,e=.returned s.v/\∃F',Two V0 V' s gs (qCG d m xs most but) F'/\qDO m.nodes.length F' but (qCG d m xs most but):=by
 obtain⟨R,hR⟩:∃R:Ending->Mem->Prop,R=fun e V'=>∃s:Sl,e=.returned s.v/\∃F',Two V0 V' s gs (qCG d m xs most but) F'/\qDO m.nodes.length F' but (qCG d m xs most but):=⟨_,rfl⟩
 rw[<- hR]
 refine x83 ?_
 unfold w83
 have hN:=(qAh hmv).2.1
 obtain⟨N,hNd⟩:∃N,N=m.nodes.length:=⟨_,rfl⟩
 refine⟨fun n ys V1=>∃(i:Nat) (s:Sl) (zs:List Int) (F':List Bool),ys=[s.v,.int .i64 i]/\i<=zs.length/\n=N+1-i/\Two V0 V1 s gs zs F'/\qDO m.nodes.length F' but zs/\Nds m.nodes.length zs/\bfsP d m most but (N+1-i) zs i=qCG d m xs most but,N+1,⟨0,l,xs,F,rfl,Nat.zero_le _,rfl,T,hF,hx,by rw[hNd];rfl⟩,?_⟩
 rintro n V1 v13 v14 ⟨i,s,zs,F1,hys,hi,rfl,T1,hF1,hz1,hb1⟩ J hJ
 simp only[List.cons.injEq,Value.int.injEq,true_and,and_true]at hys
 obtain⟨h5,rfl⟩:=hys
 cases qBk _ _ h5
 have hzl:=hz1.len
 have hzr:=T1.ol.rows (row:=qAd) (xs:=zs) (fun _=>rfl) (by decide)
 have s1:=T1.ol.sub
 refine⟨fun hlt=>?_,fun hge=>?_⟩
 ·obtain⟨x,hxm,hxi,-,hil,hp,hz,hrow⟩:=hzr.get hlt
  have hxr:=hz1.rng x hxm
  refine⟨hp,hz,hlt,_,hrow,Tri.mono (c134 hv hmv (hd.sub s1) (hm.sub s1) hxr) ?_⟩
  rintro _ V2 ⟨q,rfl,oq⟩
  have tin:=(qGV hmv).2 x
  refine⟨q,rfl,?_⟩
  have T2:Thr V0 V2 v13 gs q zs F1 (qAx d m x):=Thr.mk' T1 oq.sub oq
  refine⟨fun n ys V3=>∃(k:Nat) (s:Sl) (us:List Int) (F':List Bool),ys=[s.v,.int .i64 k]/\k<=(qAx d m x).length/\n=(qAx d m x).length-k/\us=((qAx d m x).take k).foldl (qDv most but) zs/\Thr V0 V3 s gs q us F' (qAx d m x)/\qDO m.nodes.length F' but us/\Nds m.nodes.length us,(qAx d m x).length,⟨0,v13,zs,F1,rfl,Nat.zero_le _,rfl,rfl,T2,hF1,hz1⟩,?_⟩
  rintro n V3 v17 v18 ⟨k,s3,us,F3,hys,hk,rfl,hus,T3,hF3,hz3⟩ J1 hJ1
  simp only[List.cons.injEq,Value.int.injEq,true_and,and_true]at hys
  obtain⟨h5,rfl⟩:=hys
  cases qBk _ _ h5
  have hqr:=T3.oq.rows (row:=qAd) (xs:=qAx d m x) (fun _=>rfl) (by decide)
  have husn:=(T3.two.ol.rows (row:=qAd) (xs:=us) (fun _=>rfl) (by decide)).n_eq
  have hul:=hz3.len
  refine⟨fun hlt3=>?_,fun hge3=>?_⟩
  ·obtain⟨y,hym,hyi,-,hkl,hp3,hz33,hrow3⟩:=hqr.get hlt3
   have hyr:=tin y hym
   have hsu:=hqr.succ hlt3
   have e:((qAx d m x).take (k+1)).foldl (qDv most but) zs=qDv most but us y:=by rw[qAO hyi,List.foldl_append,<- hus];rfl
   have hz4:Nds m.nodes.length (qDv most but us y):=hz3.add hyr
   obtain⟨⟨a1,a2,a3⟩,a4⟩:=addStep (d:=d) (most:=most) (J:=fun _ _ _ _=>True) T3 hF3 hz3 hN hgs hyr
   have stay:qDv most but us y=us->J1 [v17.v,.int .i64 ((k:Int)+1)] V3:=fun h=>hJ1 ((qAx d m x).length-(k+1)) _ _ (by omega) ⟨k+1,v17,us,F3,rfl,hkl,rfl,by rw[e,h],T3,hF3,hz3⟩
   refine⟨hp3,hz33,hlt3,_,hrow3,fun c1=>⟨a1,a2,a3,_,a4,fun c2=>⟨hsu,stay ?_⟩,fun c2=>⟨a1,a2,a3,?_⟩⟩,fun c1=>⟨hsu,stay ?_⟩⟩
   ·have c2:y∈but∨y∈us:=of_decide_eq_true c2
    unfold qDv
    rw[if_neg fun h=>c2.elim h.2.2 h.2.1]
   ·have c1:(v17.n:Int)<(most:Int):=c1
    have c2:¬(y∈but∨y∈us):=fun h=>c2 (decide_eq_true h)
    rw[not_or]at c2
    have ea:qDv most but us y=us++[y]:=by unfold qDv;rw[if_pos ⟨by omega,c2.2,c2.1⟩]
    obtain⟨j,rfl⟩:∃j:Nat,y=(j:Int):=⟨y.toNat,by omega⟩
    refine T3.mark (j:=j) (by rw[hF3.1];omega) fun V4 T4 b hb=>?_
    refine oneG (row:=qAd) qDb (x:=(j:Int)) (s:=v17) T4.two.ol.but hb (by omega) rfl rfl (fun _=>rfl) fun s' V5 o'=>?_
    exact⟨s',rfl,hsu,hJ1 ((qAx d m x).length-(k+1)) _ _ (by omega) ⟨k+1,s',us++[(j:Int)],_,rfl,hkl,rfl,by rw[e,ea],T4.push o',hF3.mark (by omega),by rw[<- ea];exact hz4⟩⟩
   ·have c1:¬(v17.n:Int)<(most:Int):=c1
    unfold qDv
    rw[if_neg fun h=>c1 (by omega)]
  ·have hd3:=(hqr.done hge3).2
   rw[List.take_of_length_le hd3]at hus
   refine⟨hzr.succ hlt,hJ (N+1-(i+1)) _ _ (by omega) ⟨i+1,v17,us,F3,rfl,?_,rfl,T3.two,hF3,hz3,?_⟩⟩
   ·have hs:=Spr.fold (N:=m.nodes.length) (most:=most) (but:=but) (qAx d m x) zs (Spr.refl hz1) tin
    have h1:=nodup_le zs us hz1.nd (by rw[hus];exact hs.sub)
    omega
   ·rw[<- hb1,show N+1-i=(N+1-(i+1))+1 by omega]
    conv=>rhs;unfold bfsP
    rw[hxi,hus]
 ·have hge:¬(i:Int)<(v13.n:Int):=hge
  have hzn:=hzr.n_eq
  rw[show N+1-i=(N-i)+1 by omega]at hb1
  unfold bfsP at hb1
  rw[List.getElem?_eq_none (by omega)]at hb1
  rw[hR,<- hb1]
  exact⟨v13,rfl,F1,T1,hF1⟩
end
structure Thw (V0 V:Mem) (l b q:Sl) (xs but ys:List Int):Prop where
 ol:Sx.Own V0 V 3 1 l (xs.flatMap qAd)
 ob:Sx.Own (fun _=>none) V 3 1 b (but.flatMap qAd)
 oq:Sx.Own (fun _=>none) V 3 1 q (ys.flatMap qAd)
 bl:∀c,Blk b c->¬Blk l c
 ql:∀c,Blk q c->¬Blk l c
section
variable{V0 V V':Mem}{l b q:Sl}{xs but ys zs:List Int}
theorem qBD(o:Sx.Own V0 V 3 1 q (ys.flatMap qAd)):Sx.Own (fun _=>none) V 3 1 q (ys.flatMap qAd):=o.narrow fun c x h=>by cases h
theorem qBS{q:Sl}{vs:List Value}(o:Sx.Own (fun _=>none) V 3 1 q vs)(h:∀c,Blk q c->V' c=V c):Sx.Own (fun _=>none) V' 3 1 q vs:=Own.moveB o (fun c x h=>by cases h) fun g cur hg hc=>by rw[h g hg];exact hc
theorem Thw.push(h:Thw V0 V l b q xs but ys){l':Sl}{x:Int}(o:Sx.Own (V.but l) V' 3 1 l' ((xs++[x]).flatMap qAd)):Thw V0 V' l' b q (xs++[x]) but ys:=by
 obtain⟨h1,h2,h3⟩:=qDS h.ol o
 have ne:∀{s:Sl} {vs:List Value},Sx.Own (fun _=>none) V 3 1 s vs->∀c,Blk s c->V c≠none:=fun {s vs} o c hc=>by obtain⟨cur,h⟩:=Own.some o hc;rw[h];simp
 have far:∀{s:Sl} {vs:List Value},Sx.Own (fun _=>none) V 3 1 s vs->(∀c,Blk s c->¬Blk l c)->∀c,Blk s c->¬Blk l' c:=fun {s vs} o hd c hc hl=>(h3 c hl).elim (hd c hc) (ne o c hc)
 exact⟨h1,qBS h.ob fun c hc=>h2 c (h.bl c hc) (ne h.ob c hc),qBS h.oq fun c hc=>h2 c (h.ql c hc) (ne h.oq c hc),far h.ob h.bl,far h.oq h.ql⟩
theorem Thw.next(h:Thw V0 V l b q xs but ys){V':Mem}{q':Sl}(hs:V.sub V')(o:Sx.Own V V' 3 1 q' (zs.flatMap qAd)):Thw V0 V' l b q' xs but zs:=⟨Own.growS h.ol hs,Own.growS h.ob hs,qBD o,h.bl,fun c hc hl=>by
 have h0:=Own.none0 o hc
 obtain⟨c2,h2⟩:=Own.some h.ol hl
 rw[h0]at h2;cases h2⟩
end
section
variable{V0 V:Mem}{d:Ds}{m:Mm}{l b q:Sl}{xs but ys:List Int}{most:Nat}
theorem c50(hv:qAz d=true)(hmv:qAs d m=true)(hd:Ds.Ok V0 d)(hm:Mm.Ok V0 m)(T:Thw V0 V l b q xs but ys)(hx:Nds m.nodes.length xs) :
  Tri Tryz.prog 50 #[d.v,m.v,l.v,.int .i64 most,b.v] V fun e V'=>∃s q' zs,e=.returned s.v/\Thw V0 V' s b q' (qCG d m xs most but) but zs:=by
 obtain⟨R,hR⟩:∃R:Ending->Mem->Prop,R=fun e V'=>∃(s q':Sl) (zs:List Int),e=.returned s.v/\Thw V0 V' s b q' (qCG d m xs most but) but zs:=⟨_,rfl⟩
 rw[<- hR]
 refine x50 ?_
 unfold w50
 have hN:=(qAh hmv).2.1
 obtain⟨N,hNd⟩:∃N,N=m.nodes.length:=⟨_,rfl⟩
 refine⟨fun n ys V1=>∃(i:Nat) (s q':Sl) (zs ws:List Int),ys=[s.v,.int .i64 i]/\i<=zs.length/\n=N+1-i/\Thw V0 V1 s b q' zs but ws/\Nds m.nodes.length zs/\bfsP d m most but (N+1-i) zs i=qCG d m xs most but,N+1,⟨0,l,q,xs,ys,rfl,Nat.zero_le _,rfl,T,hx,by rw[hNd];rfl⟩,?_⟩
 rintro n V1 v13 v14 ⟨i,s,q1,zs,ws,hys,hi,rfl,T1,hz1,hb1⟩ J hJ
 simp only[List.cons.injEq,Value.int.injEq,true_and,and_true]at hys
 obtain⟨h5,rfl⟩:=hys
 cases qBk _ _ h5
 have hzl:=hz1.len
 have hzr:=T1.ol.rows (row:=qAd) (xs:=zs) (fun _=>rfl) (by decide)
 have s1:=T1.ol.sub
 refine⟨fun hlt=>?_,fun hge=>?_⟩
 ·obtain⟨x,hxm,hxi,-,hil,hp,hz,hrow⟩:=hzr.get hlt
  have hxr:=hz1.rng x hxm
  refine⟨hp,hz,hlt,_,hrow,Tri.mono (c89 hv hmv (hd.sub s1) (hm.sub s1) hxr) ?_⟩
  rintro _ V2 ⟨q,rfl,oq⟩
  have tin:=(qGV hmv).2 x
  refine⟨q,rfl,?_⟩
  have T2:=T1.next oq.sub oq
  refine⟨fun n ys V3=>∃(k:Nat) (s:Sl) (us:List Int),ys=[s.v,.int .i64 k]/\k<=(qAx d m x).length/\n=(qAx d m x).length-k/\us=((qAx d m x).take k).foldl (qDv most but) zs/\Thw V0 V3 s b q us but (qAx d m x)/\Nds m.nodes.length us,(qAx d m x).length,⟨0,v13,zs,rfl,Nat.zero_le _,rfl,rfl,T2,hz1⟩,?_⟩
  rintro n V3 v17 v18 ⟨k,s3,us,hys,hk,rfl,hus,T3,hz3⟩ J1 hJ1
  simp only[List.cons.injEq,Value.int.injEq,true_and,and_true]at hys
  obtain⟨h5,rfl⟩:=hys
  cases qBk _ _ h5
  have hqr:=T3.oq.rows (row:=qAd) (xs:=qAx d m x) (fun _=>rfl) (by decide)
  have hur:=T3.ol.rows (row:=qAd) (xs:=us) (fun _=>rfl) (by decide)
  have hbr:=T3.ob.rows (row:=qAd) (xs:=but) (fun _=>rfl) (by decide)
  have husn:=hur.n_eq
  have hul:=hz3.len
  refine⟨fun hlt3=>?_,fun hge3=>?_⟩
  ·obtain⟨y,hym,hyi,-,hkl,hp3,hz33,hrow3⟩:=hqr.get hlt3
   have hyr:=tin y hym
   have hsu:=hqr.succ hlt3
   have e:((qAx d m x).take (k+1)).foldl (qDv most but) zs=qDv most but us y:=by rw[qAO hyi,List.foldl_append,<- hus];rfl
   have hz4:Nds m.nodes.length (qDv most but us y):=hz3.add hyr
   have stay:qDv most but us y=us->J1 [v17.v,.int .i64 ((k:Int)+1)] V3:=fun h=>hJ1 ((qAx d m x).length-(k+1)) _ _ (by omega) ⟨k+1,v17,us,rfl,hkl,rfl,by rw[e,h],T3,hz3⟩
   refine⟨fun c1=>⟨hp3,hz33,hlt3,_,hrow3,(c49 (x:=y) hur).call ⟨_,rfl,fun c2=>⟨hsu,stay ?_⟩,fun c2=>⟨hp3,hz33,hlt3,_,hrow3,(c49 (x:=y) hbr).call ⟨_,rfl,fun c3=>⟨hsu,stay ?_⟩,fun c3=>⟨hp3,hz33,hlt3,_,hrow3,fun bb hb=>?_⟩⟩⟩⟩⟩,fun c1=>⟨hsu,stay ?_⟩⟩
   ·have c2:y∈us:=of_decide_eq_true c2
    unfold qDv
    rw[if_neg fun h=>h.2.1 c2]
   ·have c3:y∈but:=of_decide_eq_true c3
    unfold qDv
    rw[if_neg fun h=>h.2.2 c3]
   ·have c1:(v17.n:Int)<(most:Int):=c1
    have c2:y ∉ us:=fun h=>c2 (decide_eq_true h)
    have c3:y ∉ but:=fun h=>c3 (decide_eq_true h)
    have ea:qDv most but us y=us++[y]:=by unfold qDv;rw[if_pos ⟨by omega,c2,c3⟩]
    refine oneG (row:=qAd) qDb (x:=y) (s:=v17) T3.ol.but hb (by omega) rfl rfl (fun _=>rfl) fun s' V5 o'=>?_
    exact⟨s',rfl,hsu,hJ1 ((qAx d m x).length-(k+1)) _ _ (by omega) ⟨k+1,s',us++[y],rfl,hkl,rfl,by rw[e,ea],T3.push o',by rw[<- ea];exact hz4⟩⟩
   ·have c1:¬(v17.n:Int)<(most:Int):=c1
    unfold qDv
    rw[if_neg fun h=>c1 (by omega)]
  ·have hd3:=(hqr.done hge3).2
   rw[List.take_of_length_le hd3]at hus
   refine⟨hzr.succ hlt,hJ (N+1-(i+1)) _ _ (by omega) ⟨i+1,v17,q,us,_,rfl,?_,rfl,T3,hz3,?_⟩⟩
   ·have hs:=Spr.fold (N:=m.nodes.length) (most:=most) (but:=but) (qAx d m x) zs (Spr.refl hz1) tin
    have h1:=nodup_le zs us hz1.nd (by rw[hus];exact hs.sub)
    omega
   ·rw[<- hb1,show N+1-i=(N+1-(i+1))+1 by omega]
    conv=>rhs;unfold bfsP
    rw[hxi,hus]
 ·have hge:¬(i:Int)<(v13.n:Int):=hge
  have hzn:=hzr.n_eq
  rw[show N+1-i=(N-i)+1 by omega]at hb1
  unfold bfsP at hb1
  rw[List.getElem?_eq_none (by omega)]at hb1
  rw[hR,<- hb1]
  exact⟨v13,q1,ws,rfl,T1⟩
theorem c81[Tab V](hmv:qAs d m=true)(hd:Ds.Ok V d)(hm:Mm.Ok V m):Tri Tryz.prog 81 #[d.v,m.v] V (TgtP V (qBA d m)):=by
 refine x81 ?_
 unfold w81
 refine Tri.mono (c132 hmv hd hm) ?_
 rintro _ V1 ⟨o,rfl,ho⟩
 have R:=qHy hmv
 refine⟨o,_,rfl,Tri.mono (c80 ho ⟨R.dup,R.rng⟩ (qAh hmv).2.1 hm.nodes.n_eq) ?_⟩
 rintro _ V2 ⟨s,rfl,o2⟩
 exact⟨s,rfl,s,rfl,o2⟩
theorem c82(hv:qAz d=true)(hmv:qAs d m=true)(hd:Ds.Ok V d)(hm:Mm.Ok V m):Tri Tryz.prog 82 #[d.v,m.v] V (TgtP V (qIQ d m)):=by
 obtain⟨R,hR⟩:∃R,R=TgtP V (qIQ d m):=⟨_,rfl⟩
 rw[<- hR]
 refine x82 ?_
 unfold w82
 obtain⟨p1,hN,p3,p4,p5⟩:=qAh hmv
 have hns:=hm.nodes.n_eq
 obtain⟨N,hNd⟩:∃N,N=m.nodes.length:=⟨_,rfl⟩
 rw[hns,<- hNd]
 refine⟨⟨by omega,by omega⟩,mk162 (n:=N+1) rfl rfl (by omega) fun g hg=>⟨⟨some ⟨g,0,none⟩,N+1,N+1⟩,rfl,?_⟩⟩
 have C0:=qIj hg (n:=N+1) (by omega)
 obtain⟨V1,hV1⟩:∃V1,V1=V.set g (.cells (madeCells ((Value.bool false).cells) ((N+1)*1)) 4 (0,0)):=⟨_,rfl⟩
 rw[<- hV1]at C0 ⊢
 have hgl:=(qKz hv).1
 refine Tri.mono (c133 (hd.globals.sub C0.sub) (hm.globals.sub C0.sub) p4 (by omega)) ?_
 rintro _ V2 ⟨q,rfl,oq⟩
 refine⟨q,rfl,?_⟩
 have tin:=(qGV hmv).1
 have T0:Thr V V2 ⟨none,0,0⟩ ⟨some ⟨g,0,none⟩,N+1,N+1⟩ q [] (List.replicate (N+1) false) (tgt d.globals m.globals):=Thr.mk' ⟨Own.nil C0.sub _ _,C0⟩ oq.sub oq
 refine⟨fun n ys V3=>∃(k:Nat) (s:Sl) (us:List Int) (F:List Bool),ys=[s.v,.int .i64 k]/\k<=(tgt d.globals m.globals).length/\n=(tgt d.globals m.globals).length-k/\us=((tgt d.globals m.globals).take k).foldl (qDv (N+1) []) []/\Thr V V3 s ⟨some ⟨g,0,none⟩,N+1,N+1⟩ q us F (tgt d.globals m.globals)/\qDO N F [] us/\Nds N us,(tgt d.globals m.globals).length,⟨0,_,[],_,rfl,Nat.zero_le _,rfl,rfl,T0,⟨List.length_replicate,fun j hj=>by rw[List.getElem?_replicate,if_pos hj];simp⟩,Nds.nil⟩,?_⟩
 rintro n V3 v12 v13 ⟨k,s3,us,F3,hys,hk,rfl,hus,T3,hF3,hz3⟩ J1 hJ1
 simp only[List.cons.injEq,Value.int.injEq,true_and,and_true]at hys
 obtain⟨h5,rfl⟩:=hys
 cases qBk _ _ h5
 have hqr:=T3.oq.rows (row:=qAd) (xs:=tgt d.globals m.globals) (fun _=>rfl) (by decide)
 have hul:=hz3.len
 refine⟨fun hlt3=>?_,fun hge3=>?_⟩
 ·obtain⟨y,hym,hyi,-,hkl,hp3,hz33,hrow3⟩:=hqr.get hlt3
  have hyr:=tin y hym
  rw[<- hNd]at hyr
  have hsu:=hqr.succ hlt3
  have e:((tgt d.globals m.globals).take (k+1)).foldl (qDv (N+1) []) []=qDv (N+1) [] us y:=by rw[qAO hyi,List.foldl_append,<- hus];rfl
  have hz4:Nds N (qDv (N+1) [] us y):=hz3.add hyr
  obtain⟨⟨a1,a2,a3⟩,a4⟩:=addStep (d:=d) (most:=N+1) (J:=fun _ _ _ _=>True) T3 hF3 hz3 (by omega) ⟨g,rfl⟩ hyr
  refine⟨hp3,hz33,hlt3,_,hrow3,a1,a2,a3,_,a4,fun c2=>⟨hsu,hJ1 ((tgt d.globals m.globals).length-(k+1)) _ _ (by omega) ⟨k+1,v12,us,F3,rfl,hkl,rfl,?_,T3,hF3,hz3⟩⟩,fun c2=>⟨a1,a2,a3,?_⟩⟩
  ·have c2:y∈[]∨y∈us:=of_decide_eq_true c2
   rw[e];unfold qDv
   rw[if_neg fun h=>c2.elim h.2.2 h.2.1]
  ·have c2:¬(y∈[]∨y∈us):=fun h=>c2 (decide_eq_true h)
   rw[not_or]at c2
   have ea:qDv (N+1) [] us y=us++[y]:=by unfold qDv;rw[if_pos ⟨by omega,c2.2,c2.1⟩]
   obtain⟨j,rfl⟩:∃j:Nat,y=(j:Int):=⟨y.toNat,by omega⟩
   refine T3.mark (j:=j) (by rw[hF3.1];omega) fun V4 T4 b hb=>?_
   refine oneG (row:=qAd) qDb (x:=(j:Int)) (s:=v12) T4.two.ol.but hb (by omega) rfl rfl (fun _=>rfl) fun s' V5 o'=>?_
   exact⟨s',rfl,hsu,hJ1 ((tgt d.globals m.globals).length-(k+1)) _ _ (by omega) ⟨k+1,s',us++[(j:Int)],_,rfl,hkl,rfl,by rw[e,ea],T4.push o',hF3.mark (by omega),by rw[<- ea];exact hz4⟩⟩
 ·have hd3:=(hqr.done hge3).2
  rw[List.take_of_length_le hd3,hNd]at hus
  have hus:us=firstP d m:=hus
  subst hus
  rw[hNd]at T3 hF3 hz3 ⊢
  have hsv:=T3.two.ol.sub
  refine Tri.mono (c83 (most:=m.nodes.length) (but:=[]) hv hmv hd hm T3.two hF3 hz3 ⟨g,rfl⟩) ?_
  rintro _ V4 ⟨s4,rfl,F4,T4,hF4⟩
  refine⟨s4,rfl,Tri.mono (c80 T4.ol (qHt hmv hz3).nds hN hns) ?_⟩
  rintro _ V5 ⟨s5,rfl,o5⟩
  rw[hR]
  exact⟨s5,rfl,s5,rfl,o5⟩
end
theorem div_wrap{i s:Nat}(hi:i<=1048576)(hs:1<=s):IntKind.wrap .i64 ((i:Int).tdiv (s:Int))=((i / s:Nat):Int):=by
 rw[show (i:Int).tdiv (s:Int)=((i / s:Nat):Int) from (Int.ofNat_tdiv i s).symm]
 have h1:i / s<=i:=Nat.div_le_self i s
 generalize i / s=q at h1 ⊢
 exact qHh ⟨by show (-9223372036854775808:Int)<=q;omega,by show (q:Int)<=9223372036854775807;omega⟩
section
variable{V0 V:Mem}{N size:Nat}{O zs:List Int}{os out:Sl}{R:RP}
theorem qEM(oo:Sx.Own V0 V 3 1 out (zs.flatMap qAd))(hz:zs.length=N)(hos:Sx.Own (fun _=>none) V 3 1 os (O.flatMap qAd))(hd:∀c,Blk os c->¬Blk out c)(hO:Nds N O)(hN:N<=4096)(hs:1<=size)
    (hR:∀V' zs',Sx.Own V0 V' 3 1 out (zs'.flatMap qAd)->qEG N O size zs'->R (rV (uL out)) V') :
    ∃(I:Nat->List Value->Mem->Prop) (n0:Nat),I n0 [uI 0] V/\∀n V4,∀v15,I n [uI v15] V4->∀J0:List Value->Mem->Prop,(∀m ys V'',m<n->I m ys V''->J0 ys V'') ->
     Br (v15<(os.n:Int))
     (¬os.p=none/\0<=v15/\v15<(os.n:Int)/\∃v16,V4.rowp os.p (v15.toNat*1) 1=some [uI v16] /\
     IR (v16-1)/\¬(size:Int)=0/\¬out.p=none/\0<=(v16-1)/\(v16-1)<(out.n:Int)/\StT (qAa out.p ((v16-1).toNat*1)) 0 [uI (IntKind.wrap .i64 ((v15).tdiv (size:Int)))] V4 fun V5 =>
     IR (v15+1)/\J0 [uI (v15+1)] V5)
     (R (rV (uL out)) V4):=by
  refine qJb O.length (fun i V1=>∃zs:List Int,Sx.Own V0 V1 3 1 out (zs.flatMap qAd)/\zs.length=N/\Sx.Own (fun _=>none) V1 3 1 os (O.flatMap qAd)/\∀(j:Nat) n,j<i->O[j]?=some n->zs[(n-1).toNat]?=some ((j / size:Nat):Int)) ⟨zs,oo,hz,hos,fun j n h=>by omega⟩ ?_
  rintro i V1 J hi ⟨zs1,o1,hz1,h1,ha⟩ hJ
  have hr:=h1.rows (row:=qAd) (xs:=O) (fun _=>rfl) (by decide)
  have hOl:=hO.len
  refine⟨fun hlt=>?_,fun hge=>?_⟩
  · obtain⟨n,hnm,hn,-,hil,hp,hz0,hrow⟩:=hr.get hlt
    have hnr:=hO.rng n hnm
    obtain⟨q,hq⟩:∃q:Nat,n-1=(q:Int):=⟨(n-1).toNat,by omega⟩
    have hzr:=o1.rows (row:=qAd) (xs:=zs1) (fun _=>rfl) (by decide)
    obtain⟨c1,c2,c3,-⟩:=qCj hzr (List.getElem?_eq_getElem (show q<zs1.length by omega))
    refine⟨hp,hz0,hlt,_,hrow,⟨by omega,by omega⟩,by omega,c1,by omega,by omega,?_⟩
    rw[div_wrap (by omega) hs,hq,Int.toNat_natCast,Nat.mul_one]
    refine Own.store o1 (i:=q) (by rw[qEa];omega) fun V2 o2 hk=>?_
    rw[qDZ]at o2
    refine⟨hr.succ hlt,hJ hil _ ⟨_,o2,by simp[hz1],qBS h1 fun c hc=>hk c (hd c hc),fun j n' hj hn'=>?_⟩⟩
    by_cases e:j=i
    · subst e
      rw[hn]at hn';cases hn'
      rw[hq,Int.toNat_natCast,List.getElem?_set_self (by omega)]
    · have hne:n'≠n:=fun h=>e ((List.getElem?_inj (List.getElem?_eq_some_iff.1 hn').1 hO.nd).1 (by rw[hn',hn,h]))
      have hn'r:=hO.rng n' (List.mem_of_getElem? hn')
      rw[List.getElem?_set_ne (by omega)]
      exact ha j n' (by omega) hn'
  · have hdn:=(hr.done hge).2
    exact hR V1 zs1 o1 ⟨hz1,fun j n hj=>ha j n (by have:=(List.getElem?_eq_some_iff.1 hj).1;omega) hj⟩
end
section
variable{V0 V:Mem}{d:Ds}{m:Mm}{l:Sl}
theorem c48(hv:qAz d=true)(hmv:qAs d m=true)(hd:Ds.Ok V d)(hm:Mm.Ok V m){k:Int}(hk:1<=k/\k<=3):Tri Tryz.prog 48 #[d.v,m.v,.int .i64 k] V (TgtP V (qBX d m k)):=by
 obtain⟨R,hR⟩:∃R,R=TgtP V (qBX d m k):=⟨_,rfl⟩
 rw[<- hR]
 refine x48 ?_
 unfold w48
 obtain⟨p1,hN,p3,p4,p5⟩:=qAh hmv
 have hns:=hm.nodes.n_eq
 have hgl:=(qKz hv).1
 rw[hns]
 refine⟨fun c=>?_,fun c1=>⟨fun c=>?_,fun c2=>?_⟩⟩
 ·have c:k=1:=c
  refine Tri.mono (c86 (l:=qAT) (xs:=[]) qAc.nil Nds.nil hN) ?_
  rintro _ V1 ⟨s,rfl,o⟩
  refine⟨s,rfl,?_⟩
  rw[hR];unfold qBX
  rw[if_pos c];exact⟨s,rfl,o⟩
 ·have c:k=2:=c
  refine Tri.mono (c87 hmv hd hm) ?_
  rintro _ V1 ⟨s,rfl,o⟩
  have Rc:=qHy hmv
  refine⟨s,_,rfl,Tri.mono (c86 (o.rows (fun _=>rfl) (by decide)) ⟨Rc.dup,Rc.rng⟩ hN) ?_⟩
  rintro _ V2 ⟨s2,rfl,o2⟩
  refine⟨s2,rfl,?_⟩
  rw[hR];unfold qBX
  rw[if_neg c1,if_pos c];exact⟨s2,rfl,o2.narrow o.sub⟩
 ·refine Tri.mono (c88 hd.globals hm.globals p4 (by omega)) ?_
  rintro _ V1 ⟨q,rfl,oq⟩
  refine⟨q,rfl,?_⟩
  have tin:=(qGV hmv).1
  have T0:Thw V V1 ⟨none,0,0⟩ ⟨none,0,0⟩ q [] [] (tgt d.globals m.globals):=⟨Own.nil oq.sub _ _,Own.nil (fun c x h=>by cases h) _ _,qBD oq,fun c h=>absurd rfl h.1,fun c _ h=>absurd rfl h.1⟩
  refine⟨fun n ys V3=>∃(k:Nat) (s:Sl) (us:List Int),ys=[s.v,.int .i64 k]/\k<=(tgt d.globals m.globals).length/\n=(tgt d.globals m.globals).length-k/\us=((tgt d.globals m.globals).take k).foldl (qDv (m.nodes.length+1) []) []/\Thw V V3 s ⟨none,0,0⟩ q us [] (tgt d.globals m.globals)/\Nds m.nodes.length us,(tgt d.globals m.globals).length,⟨0,_,[],rfl,Nat.zero_le _,rfl,rfl,T0,Nds.nil⟩,?_⟩
  rintro n V3 v12 v13 ⟨k,s3,us,hys,hk,rfl,hus,T3,hz3⟩ J1 hJ1
  simp only[List.cons.injEq,Value.int.injEq,true_and,and_true]at hys
  obtain⟨h5,rfl⟩:=hys
  cases qBk _ _ h5
  have hqr:=T3.oq.rows (row:=qAd) (xs:=tgt d.globals m.globals) (fun _=>rfl) (by decide)
  have hur:=T3.ol.rows (row:=qAd) (xs:=us) (fun _=>rfl) (by decide)
  have hul:=hz3.len
  refine⟨fun hlt3=>?_,fun hge3=>?_⟩
  ·obtain⟨y,hym,hyi,-,hkl,hp3,hz33,hrow3⟩:=hqr.get hlt3
   have hyr:=tin y hym
   have hsu:=hqr.succ hlt3
   have e:((tgt d.globals m.globals).take (k+1)).foldl (qDv (m.nodes.length+1) []) []=qDv (m.nodes.length+1) [] us y:=by rw[qAO hyi,List.foldl_append,<- hus];rfl
   have hz4:Nds m.nodes.length (qDv (m.nodes.length+1) [] us y):=hz3.add hyr
   refine⟨hp3,hz33,hlt3,_,hrow3,(c49 (x:=y) hur).call ⟨_,rfl,fun c2=>⟨hsu,hJ1 ((tgt d.globals m.globals).length-(k+1)) _ _ (by omega) ⟨k+1,v12,us,rfl,hkl,rfl,?_,T3,hz3⟩⟩,fun c2=>⟨hp3,hz33,hlt3,_,hrow3,fun b hb=>?_⟩⟩⟩
   ·have c2:y∈us:=of_decide_eq_true c2
    rw[e];unfold qDv
    rw[if_neg fun h=>h.2.1 c2]
   ·have c2:y ∉ us:=fun h=>c2 (decide_eq_true h)
    have ea:qDv (m.nodes.length+1) [] us y=us++[y]:=by unfold qDv;rw[if_pos ⟨by omega,c2,by simp⟩]
    refine oneG (row:=qAd) qDb (x:=y) (s:=v12) T3.ol.but hb (by omega) rfl rfl (fun _=>rfl) fun s' V5 o'=>?_
    exact⟨s',rfl,hsu,hJ1 ((tgt d.globals m.globals).length-(k+1)) _ _ (by omega) ⟨k+1,s',us++[y],rfl,hkl,rfl,by rw[e,ea],T3.push o',by rw[<- ea];exact hz4⟩⟩
  ·have hd3:=(hqr.done hge3).2
   rw[List.take_of_length_le hd3]at hus
   have hus:us=firstP d m:=hus
   subst hus
   refine Tri.mono (c50 (most:=m.nodes.length) (but:=[]) hv hmv hd hm T3 hz3) ?_
   rintro _ V4 ⟨s4,q4,z4,rfl,T4⟩
   refine⟨s4,rfl,Tri.mono (c86 (T4.ol.rows (fun _=>rfl) (by decide)) (qHt hmv hz3).nds hN) ?_⟩
   rintro _ V5 ⟨s5,rfl,o5⟩
   refine⟨s5,rfl,?_⟩
   rw[hR];unfold qBX
   rw[if_neg c1,if_neg c2];exact⟨s5,rfl,o5.narrow T4.ol.sub⟩
end
end Go.Proofs
