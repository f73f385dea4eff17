/- Part 20 of a proof of a law of this seat: no statement of the seat is proved here. -/
import Derived.Test.YtmeagdecjpknkaaGreatDoorPp19
import Derived.Test.YtmeagdecjpknkaaGreatDoorPp17
set_option linter.unusedVariables false
set_option linter.unusedSimpArgs false
namespace Go.Proofs
open Go Go.Sx
attribute [local irreducible] Go.Sx.Tri
theorem oneG{α:Type}{t e sz:Nat}{row:α->List Value}(A:AppP t e sz row){V0 V:Mem}{b:Nat}{s:Sl}{xs:List α}{x:α}(o:Sx.Own V0 V e sz s (xs.flatMap row))(hb:V b=none)(hn:xs.length+1<=2147483648){ty:Nat}{y z:Operand}{vals:Operand->Value}(hx:vals y=.slice s.p s.n s.c)(hy:vals z=.slice (sa b) 1 1)(hl:∀x,(row x).length=sz){Q:Value->Mem->Prop}(hQ:∀s' V',Sx.Own V0 V' e sz s' ((xs++[x]).flatMap row)->Q (.slice s'.p s'.n s'.c) V') :
  GenK Tryz.prog (.call { callee:=.builtin .append,args:=#[y,z],argTypes:=#[t,t] }) ty vals (V.set b (.cells (row x).toArray e (0,0))) Q :=
 A (s:=s) (u:=⟨some ⟨b,0,none⟩,1,1⟩) (xs:=xs) (ys:=[x]) hx hy (o.new hb _) (qAc.cells (xs:=[x]) (row:=row) mss (by simp) hl (by simp) (by simp)) (by simpa using hn) hQ
end Go.Proofs
namespace Go.Proofs
open Go Go.Sx
def qHG(most:Nat)(but l:List Int)(y:Int):List Int:=if l.length<most/\y ∉ l/\y ∉ but then l++[y] else l
def bfsP(d:Ds)(m:Mm)(most:Nat)(but:List Int):Nat->List Int->Nat->List Int
 | 0,l,_=>l
 | f+1,l,i=>match l[i]? with|some x=>bfsP d m most but f ((qAM d m x).foldl (qHG most but) l) (i+1) | none=>l
def qDV(d:Ds)(m:Mm)(l:List Int)(most:Nat)(but:List Int):List Int:=bfsP d m most but (m.nodes.length+1) l 0
def qIE(l:List Int)(n:Nat):List Int:=l++((List.range n).map fun i:Nat=>(i:Int)+1).filter fun x=>decide (x ∉ l)
structure Nds (N:Nat) (l:List Int):Prop where
 nd:l.Nodup
 rng:∀x∈l,1<=x/\x<=(N:Int)
def allN(N:Nat):List Int:=(List.range N).map fun i:Nat=>(i:Int)+1
theorem allN_len(N:Nat):(allN N).length=N:=by grind [allN]
theorem mem_allN{N:Nat}{x:Int}:x∈allN N↔1<=x/\x<=(N:Int):=by
 unfold allN
 rw[List.mem_map]
 constructor
 ·grind
 ·intro h
  exact⟨(x-1).toNat,List.mem_range.2 (by omega),by omega⟩
theorem allN_nd(N:Nat):(allN N).Nodup:=List.Pairwise.map _ (fun a b h=>by omega) List.nodup_range
theorem Nds.nil{N:Nat}:Nds N []:=⟨List.nodup_nil,by simp⟩
theorem Nds.len{N:Nat}{l:List Int}(h:Nds N l):l.length<=N:=by
 have:=nodup_le l (allN N) h.nd fun x hx=>mem_allN.2 (h.rng x hx)
 rwa [allN_len]at this
theorem Nds.snoc{N:Nat}{l:List Int}(h:Nds N l){y:Int}(hy:1<=y/\y<=(N:Int))(hn:y ∉ l):Nds N (l++[y]):=by
 refine⟨?_,fun x hx=>?_⟩
 ·rw[List.nodup_append]
  exact⟨h.nd,by simp,fun a ha b hb e=>hn (by simp_all)⟩
 ·rcases List.mem_append.1 hx with hx|hx
  ·exact h.rng x hx
  simp_all
theorem Nds.add{N most:Nat}{but l:List Int}(h:Nds N l){y:Int}(hy:1<=y/\y<=(N:Int)):Nds N (qHG most but l y):=by
 unfold qHG
 split
 ·rename_i c;exact h.snoc hy c.2.1
 ·exact h
theorem add_sub{most:Nat}{but l:List Int}{y x:Int}(h:x∈l):x∈qHG most but l y:=by
 grind [qHG]
structure Spr (N most:Nat) (but l0 l:List Int):Prop where
 nds:Nds N l
 sub:∀x∈l0,x∈l
 new:∀x∈l,x∈l0∨x ∉ but
 cap:l.length<=most∨l.length<=l0.length
theorem Spr.refl{N most:Nat}{but l:List Int}(h:Nds N l):Spr N most but l l:=⟨h,fun _ h=>h,fun _ h=>.inl h,.inr (Nat.le_refl _)⟩
theorem Spr.add{N most:Nat}{but l0 l:List Int}(h:Spr N most but l0 l){y:Int}(hy:1<=y/\y<=(N:Int)):Spr N most but l0 (qHG most but l y):=by
 refine⟨h.nds.add hy,fun x hx=>add_sub (h.sub x hx),fun x hx=>?_,?_⟩
 ·unfold qHG at hx
  split at hx
  ·rename_i c
   rcases List.mem_append.1 hx with hx|hx
   ·exact h.new x hx
   simp_all
  ·exact h.new x hx
 ·unfold qHG
  split
  ·grind
  ·exact h.cap
theorem Spr.fold{N most:Nat}{but l0:List Int}:∀(ys l:List Int),Spr N most but l0 l->(∀y∈ys,1<=y/\y<=(N:Int))->Spr N most but l0 (ys.foldl (qHG most but) l)
 | [],_,h,_=>h
 | y::ys,l,h,hy=>Spr.fold ys _ (h.add (hy y (by simp))) fun z hz=>hy z (by simp[hz])
section
variable{d:Ds}{m:Mm}{most:Nat}{but:List Int}
theorem Spr.bfs(hv:qAu d m=true){l0:List Int}:∀(f:Nat) (l:List Int) (i:Nat),Spr m.nodes.length most but l0 l->Spr m.nodes.length most but l0 (bfsP d m most but f l i)
 | 0,_,_,h=>h
 | f+1,l,i,h=>by
  unfold bfsP
  split
  ·exact Spr.bfs hv f _ _ (h.fold _ _ ((qJR hv).2 _))
  ·exact h
theorem qKy(hv:qAu d m=true){l:List Int}(h:Nds m.nodes.length l):Spr m.nodes.length most but l (qDV d m l most but):=Spr.bfs hv _ _ _ (Spr.refl h)
end
theorem qKO{N:Nat}{l:List Int}(h:Nds N l):Nds N (qIE l N)/\∀x,1<=x->x<=(N:Int)->x∈qIE l N:=by
 have hm:∀x,x∈((List.range N).map fun i:Nat=>(i:Int)+1).filter (fun x=>decide (x ∉ l))↔(1<=x/\x<=(N:Int))/\x ∉ l:=fun x=>by
  rw[List.mem_filter,decide_eq_true_eq];exact and_congr_left fun _=>mem_allN
 refine⟨⟨?_,fun x hx=>?_⟩,fun x h1 h2=>?_⟩
 ·unfold qIE
  rw[List.nodup_append]
  refine⟨h.nd,(allN_nd N).filter _,fun a ha b hb e=>?_⟩
  simp_all
 ·rcases List.mem_append.1 hx with hx|hx
  ·exact h.rng x hx
  grind
 grind [qIE,inr]
structure qET (N:Nat) (O:List Int) (size:Nat) (out:List Int):Prop where
 len:out.length=N
 at_:∀(i:Nat) (n:Int),O[i]?=some n->out[(n-1).toNat]?=some ((i / size:Nat):Int)
theorem qET.eq{N size:Nat}{O a b:List Int}(h:qET N O size a)(k:qET N O size b)(hO:∀x,1<=x->x<=(N:Int)->x∈O):a=b:=by
 refine List.ext_getElem? fun j=>?_
 by_cases hj:j<N
 ·obtain⟨i,hi⟩:=List.mem_iff_getElem?.1 (hO ((j:Int)+1) (by omega) (by omega))
  have h1:=h.at_ i _ hi
  have h2:=k.at_ i _ hi
  simp_all
 ·rw[List.getElem?_eq_none (by rw[h.len];omega),List.getElem?_eq_none (by rw[k.len];omega)]
theorem plc_of{N size:Nat}{out:List Int}(hl:out.length=N)(hN:N<=4096)(hb:∀b∈out,0<=b/\b<(N:Int))(hc:∀b∈out,∃S:List Int,S.length<=size/\∀j:Nat,out[j]?=some b->((j:Int)+1)∈S):Plc out size/\Low out:=by
 refine⟨⟨fun b h=>by grind,fun b h=>?_⟩,fun b h=>by simp_all⟩
 obtain⟨S,hS,hall⟩:=hc b h
 have e:out.count b=(((List.range out.length).filter fun j=>decide (out[j]?=some b)).map fun j:Nat=>(j:Int)+1).length:=by
  rw[List.length_map]
  clear hall hS h hc hb hl
  induction out using qKH with
  | h0=>rfl
  | h l x ih =>
   rw[List.count_append,ih,List.length_append,List.length_singleton,List.range_succ,List.filter_append,List.length_append]
   grind [List.filter_congr,List.getElem?_append_left]
 have h1:=nodup_le (((List.range out.length).filter fun j=>decide (out[j]?=some b)).map fun j:Nat=>(j:Int)+1) S (List.Pairwise.map _ (fun a b h=>by omega) (List.nodup_range.filter _)) fun x hx=>by
  grind
 omega
theorem qET.plc{N size:Nat}{O out:List Int}(h:qET N O size out)(hO:∀x,1<=x->x<=(N:Int)->x∈O)(hn:Nds N O)(hs:1<=size)(hN:N<=4096):Plc out size/\Low out:=by
 have at1:∀(j:Nat) (b:Int),out[j]?=some b->∃i:Nat,O[i]?=some ((j:Int)+1)/\b=((i / size:Nat):Int):=fun j b hb=>by
  have hj:j<N:=by rw[<- h.len];grind
  obtain⟨i,hi⟩:=List.mem_iff_getElem?.1 (hO ((j:Int)+1) (by omega) (by omega))
  have h1:=h.at_ i _ hi
  grind
 refine plc_of h.len hN (fun b hb=>?_) fun b hb=>?_
 ·obtain⟨j,hj⟩:=List.mem_iff_getElem?.1 hb
  obtain⟨i,hi,rfl⟩:=at1 j b hj
  have h1:=hn.len
  have h2:=(List.getElem?_eq_some_iff.1 hi).1
  have h3:=Nat.div_le_self i size
  grind
 ·obtain⟨j,hj⟩:=List.mem_iff_getElem?.1 hb
  obtain⟨i,hi,rfl⟩:=at1 j b hj
  refine⟨(O.drop (i / size*size)).take size,by grind,fun j' hj'=>?_⟩
  obtain⟨i',hi',e⟩:=at1 j' _ hj'
  have e:i' / size=i / size:=by omega
  have a1:=Nat.div_add_mod i' size
  have a2:=Nat.mod_lt i' (show 0<size by omega)
  rw[e,Nat.mul_comm]at a1
  refine List.mem_iff_getElem?.2 ⟨i'-i / size*size,?_⟩
  rw[List.getElem?_take,if_pos (by omega),List.getElem?_drop,show i / size*size+(i'-i / size*size)=i' by omega]
  exact hi'
structure CluOf (N:Nat) (size:Nat) (cl:List (List Int)) (out:List Int):Prop where
 len:out.length=N
 at_:∀(i:Nat) (c:List Int),cl[i]?=some c->∀n∈c,out[(n-1).toNat]?=some (i:Int)
theorem CluOf.eq{N size:Nat}{cl:List (List Int)}{a b:List Int}(h:CluOf N size cl a)(k:CluOf N size cl b)(hO:∀x,1<=x->x<=(N:Int)->∃c∈cl,x∈c):a=b:=by
 refine List.ext_getElem? fun j=>?_
 by_cases hj:j<N
 ·obtain⟨c,hc,hx⟩:=hO ((j:Int)+1) (by omega) (by omega)
  obtain⟨i,hi⟩:=List.mem_iff_getElem?.1 hc
  have h1:=h.at_ i _ hi _ hx
  have h2:=k.at_ i _ hi _ hx
  simp_all
 ·rw[List.getElem?_eq_none (by rw[h.len];omega),List.getElem?_eq_none (by rw[k.len];omega)]
theorem CluOf.plc{N size:Nat}{cl:List (List Int)}{out:List Int}(h:CluOf N size cl out)(hO:∀x,1<=x->x<=(N:Int)->∃c∈cl,x∈c)(hs:∀c∈cl,c.length<=size)(hc:cl.length<=N)(hN:N<=4096):Plc out size/\Low out:=by
 have at1:∀(j:Nat) (b:Int),out[j]?=some b->∃(i:Nat) (c:List Int),cl[i]?=some c/\((j:Int)+1)∈c/\b=(i:Int):=fun j b hb=>by
  have hj:j<N:=by rw[<- h.len];grind
  obtain⟨c,hcm,hx⟩:=hO ((j:Int)+1) (by omega) (by omega)
  obtain⟨i,hi⟩:=List.mem_iff_getElem?.1 hcm
  have h1:=h.at_ i _ hi _ hx
  grind
 refine plc_of h.len hN (fun b hb=>?_) fun b hb=>?_
 ·obtain⟨j,hj⟩:=List.mem_iff_getElem?.1 hb
  grind
 ·obtain⟨j,hj⟩:=List.mem_iff_getElem?.1 hb
  obtain⟨i,c,hi,-,rfl⟩:=at1 j b hj
  refine⟨c,hs c (List.mem_of_getElem? hi),fun j' hj'=>?_⟩
  grind
end Go.Proofs
namespace Go.Proofs
open Go Go.Sx
def cluS(d:Ds)(m:Mm)(size:Nat)(s:List (List Int))(n:Int):List (List Int):=if n∈s.flatten then s else s++[qDV d m [n] size s.flatten]
def cluP(d:Ds)(m:Mm)(size:Nat)(O:List Int):List (List Int):=O.foldl (cluS d m size) []
structure CluI (N size:Nat) (s:List (List Int)):Prop where
 nds:Nds N s.flatten
 all:∀c∈s,c≠[]/\c.length<=size
theorem CluI.len{N size:Nat}{s:List (List Int)}(h:CluI N size s):s.length<=N:=by
 have h1:∀s:List (List Int),(∀c∈s,c≠[])->s.length<=s.flatten.length:=fun s=>by
  induction s with
  | nil=>simp_all
  | cons c s ih =>
   grind [List.length_pos_iff,List.flatten_cons,List.length_append,List.length_cons]
 exact Nat.le_trans (h1 s fun c hc=>(h.all c hc).1) h.nds.len
section
variable{d:Ds}{m:Mm}{size:Nat}
theorem clu_new(hv:qAu d m=true)(hs:1<=size){but:List Int}{n:Int}(hn:1<=n/\n<=(m.nodes.length:Int))(hb:n ∉ but):Nds m.nodes.length (qDV d m [n] size but)/\n∈qDV d m [n] size but/\(∀x∈qDV d m [n] size but,x ∉ but)/\(qDV d m [n] size but).length<=size:=by
 have h:=qKy (most:=size) (but:=but) hv (l:=[n]) (Nds.nil.snoc hn (by simp))
 refine⟨h.nds,h.sub n (by simp),fun x hx=>?_,?_⟩
 ·rcases h.new x hx with h|h
  ·simp_all
  ·exact h
 ·rcases h.cap with h|h
  ·exact h
  grind
theorem CluI.step(hv:qAu d m=true)(hs:1<=size){s:List (List Int)}(h:CluI m.nodes.length size s){n:Int}(hn:1<=n/\n<=(m.nodes.length:Int)):CluI m.nodes.length size (cluS d m size s n)/\n∈(cluS d m size s n).flatten/\∀x∈s.flatten,x∈(cluS d m size s n).flatten:=by
 unfold cluS
 by_cases c:n∈s.flatten
 ·simp_all
 ·rw[if_neg c]
  obtain⟨h1,h2,h3,h4⟩:=clu_new hv hs hn c
  rw[List.flatten_append,List.flatten_singleton]
  refine⟨⟨?_,fun x hx=>?_⟩,by simp[h2],fun x hx=>by simp_all⟩
  ·rw[List.flatten_append,List.flatten_singleton]
   refine⟨?_,fun x hx=>?_⟩
   ·rw[List.nodup_append]
    exact⟨h.nds.nd,h1.nd,fun a ha b hb e=>h3 b hb (by simp_all)⟩
   ·rcases List.mem_append.1 hx with hx|hx
    ·exact h.nds.rng x hx
    ·exact h1.rng x hx
  ·rcases List.mem_append.1 hx with hx|hx
   ·exact h.all x hx
   grind
theorem clu_ok(hv:qAu d m=true)(hs:1<=size):∀(O:List Int) (s:List (List Int)),CluI m.nodes.length size s->(∀x∈O,1<=x/\x<=(m.nodes.length:Int))->CluI m.nodes.length size (O.foldl (cluS d m size) s)/\∀x,x∈O∨x∈s.flatten->x∈(O.foldl (cluS d m size) s).flatten
 | [],s,h,_=>⟨h,fun x hx=>hx.resolve_left (by simp)⟩
 | n::O,s,h,ho=>by
  obtain⟨h1,h2,h3⟩:=h.step hv hs (ho n (by simp))
  obtain⟨k1,k2⟩:=clu_ok hv hs O _ h1 fun x hx=>ho x (by simp[hx])
  grind
def qDa(d:Ds)(m:Mm):List Int:=qIE (qBt d m).order m.nodes.length
def firstP(d:Ds)(m:Mm):List Int:=(tgt d.globals m.globals).foldl (qHG (m.nodes.length+1) []) []
def qJs(d:Ds)(m:Mm):List Int:=qIE (qDV d m (firstP d m) m.nodes.length []) m.nodes.length
def qDH(d:Ds)(m:Mm)(k:Int):List Int:=if k=1 then qIE [] m.nodes.length else if k=2 then qDa d m else qJs d m
theorem qHg(hv:qAu d m=true):Nds m.nodes.length (qDa d m)/\∀x,1<=x->x<=(m.nodes.length:Int)->x∈qDa d m :=
 qKO ⟨(qGi hv).dup,(qGi hv).rng⟩
theorem first_spr(hv:qAu d m=true):Spr m.nodes.length (m.nodes.length+1) [] [] (firstP d m):=(Spr.refl Nds.nil).fold _ _ (qJR hv).1
theorem qKV(hv:qAu d m=true)(k:Int):Nds m.nodes.length (qDH d m k)/\∀x,1<=x->x<=(m.nodes.length:Int)->x∈qDH d m k:=by
 unfold qDH
 split
 ·exact qKO Nds.nil
 ·split
  ·exact qHg hv
  ·exact qKO (qKy hv (first_spr hv).nds).nds
def qAL(d:Ds)(m:Mm)(k:Int)(size:Nat)(out:List Int):Prop:=if k<4 then qET m.nodes.length (qDH d m k) size out else CluOf m.nodes.length size (cluP d m size (qDa d m)) out
theorem place_eq(hv:qAu d m=true)(hs:1<=size){k:Int}{a b:List Int}(h:qAL d m k size a)(h':qAL d m k size b):a=b:=by
 unfold qAL at h h'
 split at h
 ·rename_i c
  rw[if_pos c]at h'
  exact h.eq h' (qKV hv k).2
 ·rename_i c
  rw[if_neg c]at h'
  refine h.eq h' fun x h1 h2=>?_
  obtain⟨-,k2⟩:=clu_ok hv hs (qDa d m) [] ⟨Nds.nil,by simp⟩ (qHg hv).1.rng
  have:=k2 x (.inl ((qHg hv).2 x h1 h2))
  obtain⟨c,h1,h2⟩:=List.mem_flatten.1 this
  exact⟨c,h1,h2⟩
theorem qGj(hv:qAu d m=true)(hs:1<=size){k:Int}{a:List Int}(h:qAL d m k size a):Plc a size/\Low a/\a.length=m.nodes.length:=by
 have hN:=(qAj hv).2.1
 unfold qAL at h
 split at h
 ·obtain⟨h1,h2⟩:=qKV hv k
  exact⟨(h.plc h2 h1 hs hN).1,(h.plc h2 h1 hs hN).2,h.len⟩
 ·obtain⟨k1,k2⟩:=clu_ok hv hs (qDa d m) [] ⟨Nds.nil,by simp⟩ (qHg hv).1.rng
  have:=h.plc (fun x h1 h2=>List.mem_flatten.1 (k2 x (.inl ((qHg hv).2 x h1 h2)))) (fun c hc=>(k1.all c hc).2) k1.len hN
  exact⟨this.1,this.2,h.len⟩
end
end Go.Proofs
namespace Go.Proofs
open Go Go.Sx
attribute [local irreducible] Go.Sx.Tri
section
variable{V:Mem}{d:Ds}{m:Mm}
def TgtP(V:Mem)(xs:List Int):Ending->Mem->Prop:=fun e V'=>∃s:Sl,e=.returned s.v/\Sx.Own V V' 3 1 s (xs.flatMap qAf)
theorem tgt_len(fs:List Fld)(vs:List Int)(i:Nat):(tgtI fs vs i).length<=fs.length:=by
 grind [tgtI]
theorem ref_pos{fs:List Fld}{vs:List Int}(h:qAi d m fs vs=true){i:Nat}{f:Fld}{v:Int}(hf:fs[i]?=some f)(hv:vs[i]?=some v)(hp:qBB f.ty=false):qDf (f,v)=decide (0<v):=by
 unfold qDf
 rw[hp]
 by_cases c:v=0
 ·simp[c]
 ·have:=qJY h hf hv hp c
  simp[c];omega
theorem c133{fl vl:Sl}{fs:List Fld}{vs:List Int}(hl:qAc V fl 2 (fs.map Fld.row))(hv:qAc V vl 1 (vs.map qAf))(h:qAi d m fs vs=true)(hb:fs.length<=4096):Tri Tryz.prog 133 #[fl.v,vl.v] V (TgtP V (tgt fs vs)):=by
 obtain⟨R,hR⟩:∃R,R=TgtP V (tgt fs vs):=⟨_,rfl⟩
 rw[<- hR]
 refine x133 ?_
 unfold w133
 have he:=qGP h
 refine qFt (mk:=fun s:Sl=>.slice s.p s.n s.c) (b0:=⟨none,0,0⟩) qBc fs.length (fun i s V1=>Sx.Own V V1 3 1 s ((tgtI fs vs i).flatMap qAf)) (Own.nil (Mem.sub.refl _) _ _) ?_
 rintro i s V1 J hi o hJ
 have hl1:=hl.sub o.sub
 have hv1:=hv.sub o.sub
 refine⟨fun hlt=>?_,fun hge=>?_⟩
 ·obtain⟨f,-,hf,-,hil,hp,hz,hrow⟩:=hl1.get hlt
  have hx:=List.getElem?_eq_getElem (l:=vs) (i:=i) (by omega)
  obtain⟨x,hxd⟩:∃x,x=vs[i]'(by omega):=⟨_,rfl⟩
  rw[<- hxd]at hx
  obtain⟨p1,p2,p3,p4⟩:=qDL hv1 hx
  have e:=qEv hf hx
  have hsu:=hl1.succ hlt
  have stay:qDf (f,x)=false->J [.slice s.p s.n s.c,.int .i64 ((i:Int)+1)] V1:=fun hr=>hJ hil s _ (by simp_all)
  have pl:qBB f.ty=true->qDf (f,x)=false:=fun h=>by grind [qDf]
  refine⟨hp,hz,hlt,_,_,hrow,fun c=>⟨hsu,stay (pl (qHV (.inl c)))⟩,fun c1=>⟨fun c=>⟨hsu,stay (pl (qHV (.inr c)))⟩,fun c2=>⟨p1,p2,p3,_,p4,fun c=>?_,fun c=>⟨hsu,stay ?_⟩⟩⟩⟩
  all_goals
   have hpl:qBB f.ty=false:=by
    have c1:¬f.ty=qAV:=c1
    have c2:¬f.ty=qAt:=c2
    unfold qBB;simp[c1,c2]
  ·have hr:qDf (f,x)=true:=by grind [ref_pos,decide_eq_true]
   refine⟨p1,p2,p3,_,p4,fun b hb1=>?_⟩
   have hle:=tgt_len fs vs i
   refine oneG (row:=qAf) qFO (x:=x) (s:=s) o hb1 (by omega) rfl rfl (fun _=>rfl) fun s' V' o'=>?_
   grind
  grind [ref_pos,decide_eq_false]
 ·rw[qKC (hl1.done hge).2]at o
  rw[hR];exact⟨s,rfl,o⟩
theorem node_at(hmv:qAu d m=true)(hd:Ds.Ok V d)(hm:Mm.Ok V m){n:Int}(hn:1<=n/\n<=(m.nodes.length:Int)):∃(x:Nd) (t:Ty) (j:Nat),m.nodes[(n-1).toNat]?=some x/\x.ty=(j:Int)/\d.types[j]?=some t/\qAq d x.ty=t.fields/\qAM d m n=tgt t.fields x.f/\qAi d m t.fields x.f=true /\
  ¬m.ns.p=none/\(n-1)<(m.ns.n:Int)/\V.rowp m.ns.p ((n-1).toNat*2) 2=some x.row/\¬d.ts.p=none/\(j:Int)<(d.ts.n:Int)/\V.rowp d.ts.p (j*2) 2=some t.row/\qAc V t.fs 2 (t.fields.map Fld.row)/\qAc V x.sl 1 (x.f.map qAf):=by
 obtain⟨p1,p2,p3,p4,p5⟩:=qAj hmv
 obtain⟨q,hq⟩:∃q:Nat,n-1=(q:Int):=⟨(n-1).toNat,by omega⟩
 have hql:q<m.nodes.length:=by omega
 have hx:=List.getElem?_eq_getElem hql
 obtain⟨x,hxd⟩:∃x,x=m.nodes[q]:=⟨_,rfl⟩
 rw[<- hxd]at hx
 have hxm:=List.mem_of_getElem? hx
 have hty:=of_decide_eq_true (p3 x hxm)
 obtain⟨j,hj⟩:∃j:Nat,x.ty=(j:Int):=⟨x.ty.toNat,by omega⟩
 have hjl:j<d.types.length:=by omega
 have ht:=List.getElem?_eq_getElem hjl
 obtain⟨t,htd⟩:∃t,t=d.types[j]:=⟨_,rfl⟩
 rw[<- htd]at ht
 have hfo:qAq d x.ty=t.fields:=by rw[hj];exact qAS ht rfl
 have n1:=hm.nodes.n_eq
 have n2:=hd.types.n_eq
 obtain⟨y,-,hy,-,-,a1,a2,a3⟩:=hm.nodes.get (i:=q) (by omega)
 rw[hx]at hy;cases hy
 obtain⟨y,-,hy,-,-,b1,b2,b3⟩:=hd.types.get (i:=j) (by omega)
 rw[ht]at hy;cases hy
 rw[hq,Int.toNat_natCast]
 refine⟨x,t,j,hx,hj,ht,hfo,?_,by grind,a1,by omega,a3,b1,by omega,b3,(hd.typesOk t (List.mem_of_getElem? ht)).fields,(hm.nodesOk x hxm).rows⟩
 simp_all [qAM,Int.toNat_natCast,tgt,qAq]
theorem c134(hv:qAB d=true)(hmv:qAu d m=true)(hd:Ds.Ok V d)(hm:Mm.Ok V m){n:Int}(hn:1<=n/\n<=(m.nodes.length:Int)):Tri Tryz.prog 134 #[d.v,m.v,.int .i64 n] V (TgtP V (qAM d m n)):=by
 refine x134 ?_
 unfold w134
 obtain⟨x,t,j,h1,h2,h3,h4,h5,h6,a1,a2,a3,b1,b2,b3,k1,k2⟩:=node_at hmv hd hm hn
 have hlen:=(qIX hv).2 t (List.mem_of_getElem? h3)
 have hNn:=hm.nodes.n_eq
 have hc:=hm.nodes.cap
 have hf:=hm.nodes.fit
 refine⟨⟨by omega,by omega⟩,a1,by omega,a2,_,_,a3,?_⟩
 rw[h2,Int.toNat_natCast]
 refine⟨b1,by omega,b2,qAd b1,_,_,b3,Tri.mono (c133 k1 k2 h6 (by omega)) ?_⟩
 rintro _ V1 ⟨s,rfl,o⟩
 rw[h5]
 exact⟨s,rfl,s,rfl,o⟩
end
def qDc(b:Bool):List Value:=[.bool b]
theorem qDN(l:List Bool):l.flatMap qDc=l.map Value.bool:=by
 induction l with
 | nil=>rfl
 | cons a l ih=>rw[List.flatMap_cons,ih];rfl
theorem qJg(l:List Bool)(i:Nat)(x:Bool):(l.flatMap qDc).set i (.bool x)=(l.set i x).flatMap qDc:=by rw[qDN,qDN,List.map_set]
theorem qJh(l:List Bool):(l.flatMap qDc).length=l.length:=by rw[qDN,List.length_map]
theorem bool_at{V:Mem}{s:Sl}{xs:List Bool}(h:qAc V s 1 (xs.map qDc)){i:Nat}{x:Bool}(hx:xs[i]?=some x):¬s.p=none/\(0:Int)<=(i:Int)/\(i:Int)<(s.n:Int)/\V.rowp s.p (i*1) 1=some [.bool x]:=by
 have hn:=h.n_eq
 have hl:=(List.getElem?_eq_some_iff.1 hx).1
 obtain⟨y,-,hy,-,-,h1,h2,h3⟩:=h.get (i:=i) (by omega)
 rw[hx]at hy;cases hy
 exact⟨h1,h2,by omega,h3⟩
theorem rows_same{V V':Mem}{g n c sz:Nat}{rows:List (List Value)}(h:qAc V ⟨some ⟨g,0,none⟩,n,c⟩ sz rows)(e:V' g=V g):qAc V' ⟨some ⟨g,0,none⟩,n,c⟩ sz rows:=⟨h.len,h.cap,h.fit,h.size,fun i r hr=>by
 obtain⟨a,h1,h2⟩:=h.at_ i r hr
 cases h1
 refine⟨_,rfl,?_⟩
 grind [Addr.add,Mem.row]⟩
section
variable{V0 V:Mem}{d:Ds}{m:Mm}{N:Nat}{xs:List Int}{l:Sl}
theorem madeB(n:Nat):(madeCells (Value.bool false).cells n).toList=(List.replicate n false).map Value.bool:=by
 have hc:(Value.bool false).cells=#[Value.bool false]:=by rfl
 rw[hc,List.map_replicate]
 unfold madeCells
 refine List.ext_getElem? fun j=>?_
 grind
theorem qIJ{g n:Nat}(hg:V g=none)(hn:n<=2147483648):Sx.Own V (V.set g (.cells (madeCells (Value.bool false).cells (n*1)) 4 (0,0))) 4 1 ⟨some ⟨g,0,none⟩,n,n⟩ ((List.replicate n false).flatMap qDc):=by
 have e:(madeCells (Value.bool false).cells (n*1)).toList=(List.replicate n false).flatMap qDc:=by rw[Nat.mul_one,madeB,qDN]
 refine⟨Mem.sub_new hg _,by rw[qDN];simp,.inr ⟨g,_,rfl,hg,Mem.set_same _ _ _,Nat.le_refl _,by simp only[maxLen];omega,by rw[size_madeCells],?_⟩⟩
 grind [List.take_of_length_le,qDN]
theorem mk162{ty:Nat}{x y:Operand}{vals:Operand->Value}{n:Nat}(hx:vals x=.int .i64 n)(hy:vals y=.int .i64 n)(hn:n<=2147483648){q:Value->Mem->Prop}(hq:∀g,V g=none->q (.slice (sa g) n n) (V.set g (.cells (madeCells (Value.bool false).cells (n*1)) 4 (0,0)))):GenK Tryz.prog (.makeSlice 162 x y) ty vals V q :=
 GenK.make (z:=.bool false) (i:=ti 4) Tryz.underlying162 (by kernel_rfl) (by kernel_rfl) (by kernel_rfl) (of_decide_eq_true (by kernel_rfl)) hx hy hn hq
def selN(xs:List Int)(j:Nat):List Int:=((List.range j).map fun i:Nat=>(i:Int)+1).filter fun x=>decide (x ∉ xs)
theorem sel_succ(j:Nat):selN xs (j+1)=selN xs j++if ((j:Int)+1)∈xs then [] else [(j:Int)+1]:=by
 grind [selN,List.range_succ,Int]
theorem sel_len(j:Nat):(selN xs j).length<=j:=by
 grind [selN]
theorem rest_sel:qIE xs N=xs++selN xs N:=rfl
theorem push_blk{W V V1:Mem}{s s':Sl}{ys zs:List Value}(o:Sx.Own W V 3 1 s ys)(h:Sx.Own (V.but s) V1 3 1 s' zs){g:Nat}(hg:V g≠none)(hn:¬Blk s g):Sx.Own W V1 3 1 s' zs/\V1 g=V g/\¬Blk s' g:=by
 grind [qFC]
theorem c80(ho:Sx.Own V0 V 3 1 l (xs.flatMap qAf))(hx:Nds N xs)(hN:N<=4096)(hns:m.ns.n=N):Tri Tryz.prog 80 #[m.v,l.v] V fun e V'=>∃s:Sl,e=.returned s.v/\Sx.Own V0 V' 3 1 s ((qIE xs N).flatMap qAf):=by
 obtain⟨R,hR⟩:∃R:Ending->Mem->Prop,R=fun e V'=>∃s:Sl,e=.returned s.v/\Sx.Own V0 V' 3 1 s ((qIE xs N).flatMap qAf):=⟨_,rfl⟩
 rw[<- hR]
 refine x80 ?_
 unfold w80
 rw[hns]
 have hxl:=hx.len
 refine⟨⟨by omega,by omega⟩,mk162 (n:=N+1) rfl rfl (by omega) fun g hg=>⟨⟨some ⟨g,0,none⟩,N+1,N+1⟩,rfl,?_⟩⟩
 have C0:=qIJ hg (n:=N+1) (by omega)
 obtain⟨V1,hV1⟩:∃V1,V1=V.set g (.cells (madeCells ((Value.bool false).cells) ((N+1)*1)) 4 (0,0)):=⟨_,rfl⟩
 rw[<- hV1]at C0 ⊢
 have hlr:=ho.rows (row:=qAf) (xs:=xs) (fun _=>rfl) (by decide)
 refine qLe xs.length (fun i V2=>∃F:List Bool,Sx.Own V V2 4 1 ⟨some ⟨g,0,none⟩,N+1,N+1⟩ (F.flatMap qDc)/\F.length=N+1/\∀j:Nat,j<N+1->F[j]?=some (decide ((j:Int)∈xs.take i))) ⟨_,C0,List.length_replicate,fun j hj=>by simp_all⟩ ?_
 rintro i V2 J hi ⟨F,hF,hFl,hFa⟩ hJ
 have hl2:=hlr.sub hF.sub
 refine⟨fun hlt=>?_,fun hge=>?_⟩
 ·obtain⟨x,hxm,hxi,-,hil,hp,hz,hrow⟩:=hl2.get hlt
  have hr:=hx.rng x hxm
  obtain⟨q,rfl⟩:∃q:Nat,x=(q:Int):=⟨x.toNat,by omega⟩
  refine⟨hp,hz,hlt,_,hrow,nn,by omega,by grind,?_⟩
  show StT (qAa (sa g) (q*1)) 0 _ _ _
  rw[Nat.mul_one]
  refine Own.store (s:=⟨some ⟨g,0,none⟩,N+1,N+1⟩) hF (i:=q) (by rw[qJh];omega) fun V3 hF3 _=>?_
  rw[qJg]at hF3
  refine⟨hl2.succ hlt,hJ hil _ ⟨_,hF3,by simp[hFl],fun j hj=>?_⟩⟩
  rw[qCz hxi]
  grind
 ·have hd:=(hl2.done hge).2
  rw[List.take_of_length_le hd]at hFa
  have hFr:=hF.rows (row:=qDc) (xs:=F) (fun _=>rfl) (by decide)
  have hgV:V2 g≠none:=by
   obtain⟨cur,hc⟩:=Own.some (c:=g) hF ⟨by simp,rfl⟩
   rw[hc];simp
  have hbl:¬Blk l g:=fun hb=>by
   grind [Own.some]
  refine⟨fun n ys V3=>∃(j:Nat) (s:Sl),ys=[s.v,.int .i64 ((j:Int)+1)]/\j<=N/\n=N-j/\Sx.Own V0 V3 3 1 s ((xs++selN xs j).flatMap qAf)/\V3 g=V2 g/\¬Blk s g,N,⟨0,l,rfl,Nat.zero_le _,rfl,by rw[show selN xs 0=[] from rfl,List.append_nil];exact Own.growS ho hF.sub,rfl,hbl⟩,?_⟩
  rintro n V3 v5 v6 ⟨j,s,hys,hj,rfl,os,hg3,hbs⟩ J hJ
  simp only[List.cons.injEq,Value.int.injEq,true_and,and_true]at hys
  obtain⟨h5,rfl⟩:=hys
  cases qBc _ _ h5
  have hF3:=rows_same hFr hg3
  refine⟨fun hlt=>?_,fun hge=>?_⟩
  ·have hlt:(j:Int)+1<((N+1:Nat):Int):=hlt
   obtain⟨b1,b2,b3,b4⟩:=bool_at hF3 (hFa (j+1) (by omega))
   have e:=sel_succ (xs:=xs) j
   have hsl:=sel_len (xs:=xs) j
   refine⟨b1,by omega,hlt,_,b4,fun c=>⟨⟨by omega,by omega⟩,hJ (N-(j+1)) _ _ (by omega) ⟨j+1,v5,rfl,by omega,rfl,?_,hg3,hbs⟩⟩,fun c b hb=>?_⟩
   ·simp_all
   ·have c:¬((j:Int)+1)∈xs:=fun h=>c (decide_eq_true h)
    refine oneG (row:=qAf) qFO (x:=(j:Int)+1) (s:=v5) os.but hb (by grind) rfl rfl (fun _=>rfl) fun s' V' o'=>?_
    obtain⟨k1,k2,k3⟩:=push_blk os o' (g:=g) (by grind) hbs
    refine⟨s',rfl,⟨by omega,by omega⟩,hJ (N-(j+1)) _ _ (by omega) ⟨j+1,s',rfl,by omega,rfl,?_,k2.trans hg3,k3⟩⟩
    simp_all
  ·have hge:¬(j:Int)+1<((N+1:Nat):Int):=hge
   obtain rfl:j=N:=by omega
   rw[hR,rest_sel]
   grind
end
theorem ntBool:∀(cur r:Array Value),Obj.cells cur 3 (0,0)≠Obj.cells r 4 (0,0):=fun _ _ h=>by
 simp_all
structure Two (V0 V:Mem) (l gs:Sl) (xs:List Int) (F:List Bool):Prop where
 ol:Sx.Own V0 V 3 1 l (xs.flatMap qAf)
 og:Sx.Own V0 V 4 1 gs (F.flatMap qDc)
structure Thr (V0 V:Mem) (l gs q:Sl) (xs:List Int) (F:List Bool) (ys:List Int):Prop where
 two:Two V0 V l gs xs F
 oq:Sx.Own (fun _=>none) V 3 1 q (ys.flatMap qAf)
 ql:∀c,Blk q c->¬Blk l c
def qDT(N:Nat)(F:List Bool)(but xs:List Int):Prop:=F.length=N+1/\∀j:Nat,j<N+1->F[j]?=some (decide ((j:Int)∈but∨(j:Int)∈xs))
section
variable{V0 V V':Mem}{l gs q:Sl}{xs ys but:List Int}{F:List Bool}{N:Nat}
theorem Two.apart(h:Two V0 V l gs xs F){c:Nat}(hg:Blk gs c):¬Blk l c:=fun hl=>by
 obtain⟨c1,h1⟩:=Own.some h.og hg
 obtain⟨c2,h2⟩:=Own.some h.ol hl
 simp_all
theorem Two.grow(h:Two V0 V l gs xs F)(hs:V.sub V'):Two V0 V' l gs xs F:=⟨Own.growS h.ol hs,Own.growS h.og hs⟩
theorem Thr.apart(h:Thr V0 V l gs q xs F ys){c:Nat}(hg:Blk q c):¬Blk gs c:=fun hl=>by
 obtain⟨c1,h1⟩:=Own.some h.two.og hl
 obtain⟨c2,h2⟩:=Own.some h.oq hg
 simp_all
theorem Thr.mk'(h:Two V0 V l gs xs F)(hs:V.sub V')(o:Sx.Own V V' 3 1 q (ys.flatMap qAf)):Thr V0 V' l gs q xs F ys:=⟨h.grow hs,o.narrow (fun c x h=>by cases h),fun c hc hl=>by
 have h0:=Own.none0 o hc
 obtain⟨c2,h2⟩:=Own.some h.ol hl
 simp_all⟩
theorem Thr.push(h:Thr V0 V l gs q xs F ys){l':Sl}{x:Int}(o:Sx.Own (V.but l) V' 3 1 l' ((xs++[x]).flatMap qAf)):Thr V0 V' l' gs q (xs++[x]) F ys:=by
 obtain⟨h1,h2,h3⟩:=qFC h.two.ol o
 refine⟨⟨h1,Own.moveB h.two.og h1.sub fun g cur hg hc=>?_⟩,Own.moveB h.oq (fun c x h=>by cases h) fun g cur hg hc=>?_,fun c hc hl=>?_⟩
 ·rw[h2 g (h.two.apart hg) (by rw[hc];simp)];exact hc
 ·rw[h2 g (h.ql g hg) (by rw[hc];simp)];exact hc
 ·rcases h3 c hl with hb|hb
  ·exact h.ql c hc hb
  ·obtain⟨cur,hcur⟩:=Own.some h.oq hc
   simp_all
theorem Thr.mark(h:Thr V0 V l gs q xs F ys){j:Nat}(hj:j<F.length){Q:Mem->Prop}(hq:∀V',Thr V0 V' l gs q xs (F.set j true) ys->Q V'):StT (qAa gs.p (j*1)) 0 [.bool true] V Q:=by
 rw[Nat.mul_one]
 refine Own.store h.two.og (i:=j) (by rw[qJh];exact hj) fun V' o hk=>hq V' ?_
 rw[qJg]at o
 exact⟨⟨Own.moveB h.two.ol o.sub fun g cur hg hc=>by rw[hk g fun hb=>h.two.apart hb hg];exact hc,o⟩,Own.moveB h.oq (fun c x h=>by cases h) fun g cur hg hc=>by rw[hk g (h.apart hg)];exact hc,h.ql⟩
theorem qDT.mark(h:qDT N F but xs){j:Nat}(hj:j<N+1):qDT N (F.set j true) but (xs++[(j:Int)]):=by
 refine⟨by rw[List.length_set];exact h.1,fun i hi=>?_⟩
 by_cases c:j=i
 ·subst c
  rw[List.getElem?_set_self (by rw[h.1];exact hj)]
  simp
 ·rw[List.getElem?_set_ne c,h.2 i hi]
  grind
theorem addStep{d:Ds}{most:Nat}{y:Int}(T:Thr V0 V l gs q xs F ys)(hF:qDT N F but xs)(hx:Nds N xs)(hN:N<=4096)(hgs:∃g,gs=⟨some ⟨g,0,none⟩,N+1,N+1⟩)(hy:1<=y/\y<=(N:Int)){J:Sl->List Int->List Bool->Mem->Prop} :
  (¬gs.p=none/\0<=y/\y<(gs.n:Int))/\V.rowp gs.p (y.toNat*1) 1=some [.bool (decide (y∈but∨y∈xs))]:=by
 obtain⟨g,rfl⟩:=hgs
 obtain⟨j,rfl⟩:∃j:Nat,y=(j:Int):=⟨y.toNat,by omega⟩
 obtain⟨b1,b2,b3,b4⟩:=bool_at (T.two.og.rows (fun _=>rfl) (by decide)) (hF.2 j (by omega))
 simp_all
end
section
variable{V0 V:Mem}{d:Ds}{m:Mm}{l gs:Sl}{xs but:List Int}{F:List Bool}{most:Nat}
theorem c83(hv:qAB d=true)(hmv:qAu d m=true)(hd:Ds.Ok V0 d)(hm:Mm.Ok V0 m)(T:Two V0 V l gs xs F)(hF:qDT m.nodes.length F but xs)(hx:Nds m.nodes.length xs)(hgs:∃g,gs=⟨some ⟨g,0,none⟩,m.nodes.length+1,m.nodes.length+1⟩) :
  Tri Tryz.prog 83 #[d.v,m.v,l.v,gs.v,.int .i64 most] V fun e V'=>∃s:Sl,e=.returned s.v/\∃F',Two V0 V' s gs (qDV d m xs most but) F'/\qDT m.nodes.length F' but (qDV d m xs most but):=by
 obtain⟨R,hR⟩:∃R:Ending->Mem->Prop,R=fun e V'=>∃s:Sl,e=.returned s.v/\∃F',Two V0 V' s gs (qDV d m xs most but) F'/\qDT m.nodes.length F' but (qDV d m xs most but):=⟨_,rfl⟩
 rw[<- hR]
 refine x83 ?_
 unfold w83
 have hN:=(qAj hmv).2.1
 obtain⟨N,hNd⟩:∃N,N=m.nodes.length:=⟨_,rfl⟩
 refine⟨fun n ys V1=>∃(i:Nat) (s:Sl) (zs:List Int) (F':List Bool),ys=[s.v,.int .i64 i]/\i<=zs.length/\n=N+1-i/\Two V0 V1 s gs zs F'/\qDT m.nodes.length F' but zs/\Nds m.nodes.length zs/\bfsP d m most but (N+1-i) zs i=qDV d m xs most but,N+1,⟨0,l,xs,F,rfl,Nat.zero_le _,rfl,T,hF,hx,by rw[hNd];rfl⟩,?_⟩
 rintro n V1 v13 v14 ⟨i,s,zs,F1,hys,hi,rfl,T1,hF1,hz1,hb1⟩ J hJ
 simp only[List.cons.injEq,Value.int.injEq,true_and,and_true]at hys
 obtain⟨h5,rfl⟩:=hys
 cases qBc _ _ h5
 have hzl:=hz1.len
 have hzr:=T1.ol.rows (row:=qAf) (xs:=zs) (fun _=>rfl) (by decide)
 have s1:=T1.ol.sub
 refine⟨fun hlt=>?_,fun hge=>?_⟩
 ·obtain⟨x,hxm,hxi,-,hil,hp,hz,hrow⟩:=hzr.get hlt
  have hxr:=hz1.rng x hxm
  refine⟨hp,hz,hlt,_,hrow,Tri.mono (c134 hv hmv (hd.sub s1) (hm.sub s1) hxr) ?_⟩
  rintro _ V2 ⟨q,rfl,oq⟩
  have tin:=(qJR hmv).2 x
  refine⟨q,rfl,?_⟩
  have T2:Thr V0 V2 v13 gs q zs F1 (qAM d m x):=Thr.mk' T1 oq.sub oq
  refine⟨fun n ys V3=>∃(k:Nat) (s:Sl) (us:List Int) (F':List Bool),ys=[s.v,.int .i64 k]/\k<=(qAM d m x).length/\n=(qAM d m x).length-k/\us=((qAM d m x).take k).foldl (qHG most but) zs/\Thr V0 V3 s gs q us F' (qAM d m x)/\qDT m.nodes.length F' but us/\Nds m.nodes.length us,(qAM d m x).length,⟨0,v13,zs,F1,rfl,Nat.zero_le _,rfl,rfl,T2,hF1,hz1⟩,?_⟩
  rintro n V3 v17 v18 ⟨k,s3,us,F3,hys,hk,rfl,hus,T3,hF3,hz3⟩ J1 hJ1
  simp only[List.cons.injEq,Value.int.injEq,true_and,and_true]at hys
  obtain⟨h5,rfl⟩:=hys
  cases qBc _ _ h5
  have hqr:=T3.oq.rows (row:=qAf) (xs:=qAM d m x) (fun _=>rfl) (by decide)
  have husn:=(T3.two.ol.rows (row:=qAf) (xs:=us) (fun _=>rfl) (by decide)).n_eq
  have hul:=hz3.len
  refine⟨fun hlt3=>?_,fun hge3=>?_⟩
  ·obtain⟨y,hym,hyi,-,hkl,hp3,hz33,hrow3⟩:=hqr.get hlt3
   have hyr:=tin y hym
   have hsu:=hqr.succ hlt3
   have e:((qAM d m x).take (k+1)).foldl (qHG most but) zs=qHG most but us y:=by rw[qCz hyi,List.foldl_append,<- hus];rfl
   have hz4:Nds m.nodes.length (qHG most but us y):=hz3.add hyr
   obtain⟨⟨a1,a2,a3⟩,a4⟩:=addStep (d:=d) (most:=most) (J:=fun _ _ _ _=>True) T3 hF3 hz3 hN hgs hyr
   have stay:qHG most but us y=us->J1 [v17.v,.int .i64 ((k:Int)+1)] V3:=fun h=>hJ1 ((qAM d m x).length-(k+1)) _ _ (by omega) ⟨k+1,v17,us,F3,rfl,hkl,rfl,by rw[e,h],T3,hF3,hz3⟩
   refine⟨hp3,hz33,hlt3,_,hrow3,fun c1=>⟨a1,a2,a3,_,a4,fun c2=>⟨hsu,stay ?_⟩,fun c2=>⟨a1,a2,a3,?_⟩⟩,fun c1=>⟨hsu,stay ?_⟩⟩
   ·grind [qHG]
   ·have c1:(v17.n:Int)<(most:Int):=c1
    have c2:¬(y∈but∨y∈us):=fun h=>c2 (decide_eq_true h)
    rw[not_or]at c2
    have ea:qHG most but us y=us++[y]:=by grind [qHG]
    obtain⟨j,rfl⟩:∃j:Nat,y=(j:Int):=⟨y.toNat,by omega⟩
    refine T3.mark (j:=j) (by rw[hF3.1];omega) fun V4 T4 b hb=>?_
    refine oneG (row:=qAf) qFO (x:=(j:Int)) (s:=v17) T4.two.ol.but hb (by omega) rfl rfl (fun _=>rfl) fun s' V5 o'=>?_
    exact⟨s',rfl,hsu,hJ1 ((qAM d m x).length-(k+1)) _ _ (by omega) ⟨k+1,s',us++[(j:Int)],_,rfl,hkl,rfl,by rw[e,ea],T4.push o',hF3.mark (by omega),by grind⟩⟩
   grind [qHG]
  ·have hd3:=(hqr.done hge3).2
   rw[List.take_of_length_le hd3]at hus
   refine⟨hzr.succ hlt,hJ (N+1-(i+1)) _ _ (by omega) ⟨i+1,v17,us,F3,rfl,?_,rfl,T3.two,hF3,hz3,?_⟩⟩
   ·have hs:=Spr.fold (N:=m.nodes.length) (most:=most) (but:=but) (qAM d m x) zs (Spr.refl hz1) tin
    have h1:=nodup_le zs us hz1.nd (by rw[hus];exact hs.sub)
    omega
   ·rw[<- hb1,show N+1-i=(N+1-(i+1))+1 by omega]
    grind [bfsP]
 ·have hge:¬(i:Int)<(v13.n:Int):=hge
  have hzn:=hzr.n_eq
  rw[show N+1-i=(N-i)+1 by omega]at hb1
  unfold bfsP at hb1
  grind
end
section
variable{V0 V V':Mem}{l b q:Sl}{xs but ys zs:List Int}
theorem qEC(o:Sx.Own V0 V 3 1 q (ys.flatMap qAf)):Sx.Own (fun _=>none) V 3 1 q (ys.flatMap qAf):=o.narrow fun c x h=>by cases h
theorem qEB{q:Sl}{vs:List Value}(o:Sx.Own (fun _=>none) V 3 1 q vs)(h:∀c,Blk q c->V' c=V c):Sx.Own (fun _=>none) V' 3 1 q vs:=Own.moveB o (fun c x h=>by cases h) fun g cur hg hc=>by simp_all
end
section
variable{V0 V:Mem}{d:Ds}{m:Mm}{l b q:Sl}{xs but ys:List Int}{most:Nat}
theorem c81[Tab V](hmv:qAu d m=true)(hd:Ds.Ok V d)(hm:Mm.Ok V m):Tri Tryz.prog 81 #[d.v,m.v] V (TgtP V (qDa d m)):=by
 refine x81 ?_
 unfold w81
 refine Tri.mono (c132 hmv hd hm) ?_
 rintro _ V1 ⟨o,rfl,ho⟩
 have R:=qGi hmv
 refine⟨o,_,rfl,Tri.mono (c80 ho ⟨R.dup,R.rng⟩ (qAj hmv).2.1 hm.nodes.n_eq) ?_⟩
 rintro _ V2 ⟨s,rfl,o2⟩
 exact⟨s,rfl,s,rfl,o2⟩
theorem c82(hv:qAB d=true)(hmv:qAu d m=true)(hd:Ds.Ok V d)(hm:Mm.Ok V m):Tri Tryz.prog 82 #[d.v,m.v] V (TgtP V (qJs d m)):=by
 obtain⟨R,hR⟩:∃R,R=TgtP V (qJs d m):=⟨_,rfl⟩
 rw[<- hR]
 refine x82 ?_
 unfold w82
 obtain⟨p1,hN,p3,p4,p5⟩:=qAj hmv
 have hns:=hm.nodes.n_eq
 obtain⟨N,hNd⟩:∃N,N=m.nodes.length:=⟨_,rfl⟩
 rw[hns,<- hNd]
 refine⟨⟨by omega,by omega⟩,mk162 (n:=N+1) rfl rfl (by omega) fun g hg=>⟨⟨some ⟨g,0,none⟩,N+1,N+1⟩,rfl,?_⟩⟩
 have C0:=qIJ hg (n:=N+1) (by omega)
 obtain⟨V1,hV1⟩:∃V1,V1=V.set g (.cells (madeCells ((Value.bool false).cells) ((N+1)*1)) 4 (0,0)):=⟨_,rfl⟩
 rw[<- hV1]at C0 ⊢
 have hgl:=(qIX hv).1
 refine Tri.mono (c133 (hd.globals.sub C0.sub) (hm.globals.sub C0.sub) p4 (by omega)) ?_
 rintro _ V2 ⟨q,rfl,oq⟩
 refine⟨q,rfl,?_⟩
 have tin:=(qJR hmv).1
 have T0:Thr V V2 ⟨none,0,0⟩ ⟨some ⟨g,0,none⟩,N+1,N+1⟩ q [] (List.replicate (N+1) false) (tgt d.globals m.globals):=Thr.mk' ⟨Own.nil C0.sub _ _,C0⟩ oq.sub oq
 refine⟨fun n ys V3=>∃(k:Nat) (s:Sl) (us:List Int) (F:List Bool),ys=[s.v,.int .i64 k]/\k<=(tgt d.globals m.globals).length/\n=(tgt d.globals m.globals).length-k/\us=((tgt d.globals m.globals).take k).foldl (qHG (N+1) []) []/\Thr V V3 s ⟨some ⟨g,0,none⟩,N+1,N+1⟩ q us F (tgt d.globals m.globals)/\qDT N F [] us/\Nds N us,(tgt d.globals m.globals).length,⟨0,_,[],_,rfl,Nat.zero_le _,rfl,rfl,T0,⟨List.length_replicate,fun j hj=>by simp_all⟩,Nds.nil⟩,?_⟩
 rintro n V3 v12 v13 ⟨k,s3,us,F3,hys,hk,rfl,hus,T3,hF3,hz3⟩ J1 hJ1
 simp only[List.cons.injEq,Value.int.injEq,true_and,and_true]at hys
 obtain⟨h5,rfl⟩:=hys
 cases qBc _ _ h5
 have hqr:=T3.oq.rows (row:=qAf) (xs:=tgt d.globals m.globals) (fun _=>rfl) (by decide)
 have hul:=hz3.len
 refine⟨fun hlt3=>?_,fun hge3=>?_⟩
 ·obtain⟨y,hym,hyi,-,hkl,hp3,hz33,hrow3⟩:=hqr.get hlt3
  have hyr:=tin y hym
  rw[<- hNd]at hyr
  have hsu:=hqr.succ hlt3
  have e:((tgt d.globals m.globals).take (k+1)).foldl (qHG (N+1) []) []=qHG (N+1) [] us y:=by simp_all [qCz,List.foldl_append]
  have hz4:Nds N (qHG (N+1) [] us y):=hz3.add hyr
  obtain⟨⟨a1,a2,a3⟩,a4⟩:=addStep (d:=d) (most:=N+1) (J:=fun _ _ _ _=>True) T3 hF3 hz3 (by omega) ⟨g,rfl⟩ hyr
  refine⟨hp3,hz33,hlt3,_,hrow3,a1,a2,a3,_,a4,fun c2=>⟨hsu,hJ1 ((tgt d.globals m.globals).length-(k+1)) _ _ (by omega) ⟨k+1,v12,us,F3,rfl,hkl,rfl,?_,T3,hF3,hz3⟩⟩,fun c2=>⟨a1,a2,a3,?_⟩⟩
  ·grind [qHG]
  ·have c2:¬(y∈[]∨y∈us):=fun h=>c2 (decide_eq_true h)
   rw[not_or]at c2
   have ea:qHG (N+1) [] us y=us++[y]:=by grind [qHG]
   obtain⟨j,rfl⟩:∃j:Nat,y=(j:Int):=⟨y.toNat,by omega⟩
   refine T3.mark (j:=j) (by rw[hF3.1];omega) fun V4 T4 b hb=>?_
   refine oneG (row:=qAf) qFO (x:=(j:Int)) (s:=v12) T4.two.ol.but hb (by omega) rfl rfl (fun _=>rfl) fun s' V5 o'=>?_
   exact⟨s',rfl,hsu,hJ1 ((tgt d.globals m.globals).length-(k+1)) _ _ (by omega) ⟨k+1,s',us++[(j:Int)],_,rfl,hkl,rfl,by rw[e,ea],T4.push o',hF3.mark (by omega),by simp_all⟩⟩
 ·have hd3:=(hqr.done hge3).2
  rw[List.take_of_length_le hd3,hNd]at hus
  have hus:us=firstP d m:=hus
  subst hus
  rw[hNd]at T3 hF3 hz3 ⊢
  have hsv:=T3.two.ol.sub
  refine Tri.mono (c83 (most:=m.nodes.length) (but:=[]) hv hmv hd hm T3.two hF3 hz3 ⟨g,rfl⟩) ?_
  rintro _ V4 ⟨s4,rfl,F4,T4,hF4⟩
  refine⟨s4,rfl,Tri.mono (c80 T4.ol (qKy hmv hz3).nds hN hns) ?_⟩
  rintro _ V5 ⟨s5,rfl,o5⟩
  rw[hR]
  exact⟨s5,rfl,s5,rfl,o5⟩
end
theorem div_wrap{i s:Nat}(hi:i<=1048576)(hs:1<=s):IntKind.wrap .i64 ((i:Int).tdiv (s:Int))=((i / s:Nat):Int):=by
 rw[show (i:Int).tdiv (s:Int)=((i / s:Nat):Int) from (Int.ofNat_tdiv i s).symm]
 have h1:i / s<=i:=Nat.div_le_self i s
 generalize i / s=q at h1 ⊢
 exact qHB ⟨by show (-9223372036854775808:Int)<=q;omega,by show (q:Int)<=9223372036854775807;omega⟩
section
variable{V0 V:Mem}{N size:Nat}{O zs:List Int}{os out:Sl}{R:RP}
theorem qGX(oo:Sx.Own V0 V 3 1 out (zs.flatMap qAf))(hz:zs.length=N)(hos:Sx.Own (fun _=>none) V 3 1 os (O.flatMap qAf))(hd:∀c,Blk os c->¬Blk out c)(hO:Nds N O)(hN:N<=4096)(hs:1<=size)
    (hR:∀V' zs',Sx.Own V0 V' 3 1 out (zs'.flatMap qAf)->qET N O size zs'->R (rV (uL out)) V') :
    ∃(I:Nat->List Value->Mem->Prop) (n0:Nat),I n0 [uI 0] V/\∀n V4,∀v15,I n [uI v15] V4->∀J0:List Value->Mem->Prop,(∀m ys V'',m<n->I m ys V''->J0 ys V'') ->
     Br (v15<(os.n:Int))
     (¬os.p=none/\0<=v15/\v15<(os.n:Int)/\∃v16,V4.rowp os.p (v15.toNat*1) 1=some [uI v16] /\
     IR (v16-1)/\¬(size:Int)=0/\¬out.p=none/\0<=(v16-1)/\(v16-1)<(out.n:Int)/\StT (qAa out.p ((v16-1).toNat*1)) 0 [uI (IntKind.wrap .i64 ((v15).tdiv (size:Int)))] V4 fun V5 =>
     IR (v15+1)/\J0 [uI (v15+1)] V5)
     (R (rV (uL out)) V4):=by
  refine qLe O.length (fun i V1=>∃zs:List Int,Sx.Own V0 V1 3 1 out (zs.flatMap qAf)/\zs.length=N/\Sx.Own (fun _=>none) V1 3 1 os (O.flatMap qAf)/\∀(j:Nat) n,j<i->O[j]?=some n->zs[(n-1).toNat]?=some ((j / size:Nat):Int)) ⟨zs,oo,hz,hos,fun j n h=>by omega⟩ ?_
  rintro i V1 J hi ⟨zs1,o1,hz1,h1,ha⟩ hJ
  have hr:=h1.rows (row:=qAf) (xs:=O) (fun _=>rfl) (by decide)
  have hOl:=hO.len
  refine⟨fun hlt=>?_,fun hge=>?_⟩
  · obtain⟨n,hnm,hn,-,hil,hp,hz0,hrow⟩:=hr.get hlt
    have hnr:=hO.rng n hnm
    obtain⟨q,hq⟩:∃q:Nat,n-1=(q:Int):=⟨(n-1).toNat,by omega⟩
    have hzr:=o1.rows (row:=qAf) (xs:=zs1) (fun _=>rfl) (by decide)
    obtain⟨c1,c2,c3,-⟩:=qDL hzr (List.getElem?_eq_getElem (show q<zs1.length by omega))
    refine⟨hp,hz0,hlt,_,hrow,⟨by omega,by omega⟩,by omega,c1,by omega,by omega,?_⟩
    rw[div_wrap (by omega) hs,hq,Int.toNat_natCast,Nat.mul_one]
    refine Own.store o1 (i:=q) (by rw[qGx];omega) fun V2 o2 hk=>?_
    rw[qGw]at o2
    refine⟨hr.succ hlt,hJ hil _ ⟨_,o2,by simp[hz1],qEB h1 fun c hc=>hk c (hd c hc),fun j n' hj hn'=>?_⟩⟩
    by_cases e:j=i
    · subst e
      rw[hn]at hn';cases hn'
      rw[hq,Int.toNat_natCast,List.getElem?_set_self (by omega)]
    · have hne:n'≠n:=fun h=>e ((List.getElem?_inj (List.getElem?_eq_some_iff.1 hn').1 hO.nd).1 (by rw[hn',hn,h]))
      have hn'r:=hO.rng n' (List.mem_of_getElem? hn')
      rw[List.getElem?_set_ne (by omega)]
      grind
  · have hdn:=(hr.done hge).2
    exact hR V1 zs1 o1 ⟨hz1,fun j n hj=>ha j n (by grind) hj⟩
end
structure Clu (V0 V:Mem) (out gs os:Sl) (zs:List Int) (F:List Bool) (O:List Int):Prop where
 oo:Sx.Own V0 V 3 1 out (zs.flatMap qAf)
 og:Sx.Own V0 V 4 1 gs (F.flatMap qDc)
 os_:Sx.Own (fun _=>none) V 3 1 os (O.flatMap qAf)
 d1:∀c,Blk os c->¬Blk out c
section
variable{V0 V V':Mem}{out gs os s:Sl}{zs O xs:List Int}{F:List Bool}
theorem qFe{W W':Mem}{a b:Sl}{u v:List Value}(h:Sx.Own W V 3 1 a u)(k:Sx.Own W' V 4 1 b v){c:Nat}(hc:Blk a c):¬Blk b c:=fun hb=>by
 grind [Own.some,ntBool,Option.some.inj]
theorem qDl{W:Mem}{e:Nat}{a:Sl}{u:List Value}(h:Sx.Own W V e 1 a u){c:Nat}(hc:Blk a c):V c≠none:=by
 grind [Own.some]
theorem Clu.grow(h:Clu V0 V out gs os zs F O)(hs:V.sub V'):Clu V0 V' out gs os zs F O:=⟨Own.growS h.oo hs,Own.growS h.og hs,Own.growS h.os_ hs,h.d1⟩
theorem Clu.mark(h:Clu V0 V out gs os zs F O){j:Nat}(hj:j<F.length){Q:Mem->Prop}(hq:∀V',Clu V0 V' out gs os zs (F.set j true) O->Q V'):StT (qAa gs.p (j*1)) 0 [.bool true] V Q:=by
 rw[Nat.mul_one]
 refine Own.store h.og (i:=j) (by rw[qJh];exact hj) fun V' o hk=>hq V' ?_
 rw[qJg]at o
 exact⟨Own.moveB h.oo o.sub fun g cur hg hc=>by rw[hk g (qFe h.oo h.og hg)];exact hc,o,qEB h.os_ fun c hc=>hk c (qFe h.os_ h.og hc),h.d1⟩
theorem Clu.place(h:Clu V0 V out gs os zs F O)(hs:Sx.Own (fun _=>none) V 3 1 s (xs.flatMap qAf))(hd:∀c,Blk s c->¬Blk out c){j:Nat}{b:Int}(hj:j<zs.length){Q:Mem->Prop}(hq:∀V',Clu V0 V' out gs os (zs.set j b) F O->Sx.Own (fun _=>none) V' 3 1 s (xs.flatMap qAf)->Q V'):StT (qAa out.p (j*1)) 0 [.int .i64 b] V Q:=by
 rw[Nat.mul_one]
 refine Own.store h.oo (i:=j) (by rw[qGx];exact hj) fun V' o hk=>?_
 rw[qGw]at o
 exact hq V' ⟨o,Own.moveB h.og o.sub fun g cur hg hc=>by rw[hk g fun hb=>qFe h.oo h.og hb hg];exact hc,qEB h.os_ fun c hc=>hk c (h.d1 c hc),h.d1⟩ (qEB hs fun c hc=>hk c (hd c hc))
end
section
variable{V:Mem}{d:Ds}{m:Mm}{size:Nat}
theorem spreadC{V1:Mem}{out gs os:Sl}{zs O:List Int}{F:List Bool}{b:Nat}{n:Int}{but:List Int}(hv:qAB d=true)(hmv:qAu d m=true)(hd:Ds.Ok V d)(hm:Mm.Ok V m)(C:Clu V V1 out gs os zs F O)(hb:V1 b=none)(hF:qDT m.nodes.length F but [n])(hn:1<=n/\n<=(m.nodes.length:Int))(hgs:∃g,gs=⟨some ⟨g,0,none⟩,m.nodes.length+1,m.nodes.length+1⟩) :
  Tri Tryz.prog 83 #[d.v,m.v,.slice (sa b) 1 1,gs.v,.int .i64 size] (V1.set b (.cells #[.int .i64 n] 3 (0,0))) fun e V'=>∃s:Sl,e=.returned s.v/\∃F',Clu V V' out gs os zs F' O/\qDT m.nodes.length F' but (qDV d m [n] size but)/\Sx.Own (fun _=>none) V' 3 1 s ((qDV d m [n] size but).flatMap qAf)/\∀c,Blk s c->¬Blk out c:=by
 have s1:=Mem.sub_new hb (.cells #[.int .i64 n] 3 (0,0))
 obtain⟨U,hU⟩:∃U,U=V1.set b (.cells #[.int .i64 n] 3 (0,0)):=⟨_,rfl⟩
 have hUb:U b=some (.cells #[.int .i64 n] 3 (0,0)):=by rw[hU];exact Mem.set_same _ _ _
 rw[<- hU]at s1 ⊢
 have C1:=C.grow s1
 obtain⟨M,hM⟩:∃M:Nat->Prop,M=fun c=>c=b∨Blk gs c:=⟨_,rfl⟩
 have hMV:∀c,M c->V c=none:=fun c hc=>by
  rw[hM]at hc
  rcases hc with rfl|hc
  ·cases e:V c with
   | none=>rfl
   | some o=>rw[C.oo.sub _ _ e]at hb;cases hb
  ·exact Own.none0 C.og hc
 have hVW:V.sub (Mem.minus U M):=fun c o hc=>by
  rw[qBi fun h=>by grind]
  exact C1.oo.sub _ _ hc
 have T:Two (Mem.minus U M) U ⟨some ⟨b,0,none⟩,1,1⟩ gs [n] F:=by
  refine⟨⟨qCf,rfl,.inr ⟨b,_,rfl,qBR (by simp_all),hUb,Nat.le_refl _,(show 1<=maxLen by decide),rfl,rfl⟩⟩,⟨qCf,C1.og.len,?_⟩⟩
  rcases C1.og.cases0 with h1|⟨hc,g,cur,h1,h2,h3,h4⟩
  ·exact .inl h1
  ·exact .inr ⟨g,cur,h1,qBR (by rw[hM];exact .inr ⟨hc,h1⟩),h3,h4⟩
 refine Tri.mono (c83 (l:=⟨some ⟨b,0,none⟩,1,1⟩) (most:=size) hv hmv (hd.sub hVW) (hm.sub hVW) T hF (Nds.nil.snoc hn (by simp)) hgs) ?_
 rintro _ V2 ⟨s,rfl,F',T2,hF2⟩
 have sW:=T2.ol.sub
 have nb:∀{c:Nat},V1 c≠none->¬Blk gs c->V2 c=U c:=fun {c} h1 h2=>by
  have hM':¬M c:=fun h=>by
   simp_all
  cases e:U c with
  | none =>
   cases e1:V1 c with
   | none=>grind
   | some o=>rw[s1 _ _ e1]at e;cases e
  | some o=>exact sW _ _ (by rw[qBi hM'];exact e)
 refine⟨s,rfl,F',⟨Own.moveB C1.oo (hVW.trans sW) fun g cur hg hc=>?_,T2.og.narrow hVW,qEB C1.os_ fun c hc=>nb (qDl C.os_ hc) (qFe C.os_ C.og hc),C.d1⟩,hF2,qEC T2.ol,fun c hc ho=>?_⟩
 ·rw[nb (qDl C.oo hg) (qFe C.oo C.og hg)];exact hc
 ·have h0:=Own.none0 T2.ol hc
  have h1:=qDl C.oo ho
  have hM':¬M c:=fun h=>by
   rw[hM]at h
   rcases h with rfl|h
   ·exact h1 hb
   ·exact qFe C.oo C.og ho h
  rw[qBi hM']at h0
  exact qDl C1.oo ho h0
theorem c45[Tab V](hv:qAB d=true)(hmv:qAu d m=true)(hd:Ds.Ok V d)(hm:Mm.Ok V m){k:Int}(hk:1<=k/\k<=4)(hs:1<=size/\size<=64) :
  Tri Tryz.prog 45 #[d.v,m.v,.int .i64 k,.int .i64 size] V fun e V'=>∃(s:Sl) (zs:List Int),e=.returned s.v/\Sx.Own V V' 3 1 s (zs.flatMap qAf)/\qAL d m k size zs:=by
 obtain⟨R,hR⟩:∃R:Ending->Mem->Prop,R=fun e V'=>∃(s:Sl) (zs:List Int),e=.returned s.v/\Sx.Own V V' 3 1 s (zs.flatMap qAf)/\qAL d m k size zs:=⟨_,rfl⟩
 rw[<- hR]
 refine x45 ?_
 unfold w45
 obtain⟨p1,hN,p3,p4,p5⟩:=qAj hmv
 have hns:=hm.nodes.n_eq
 rw[hns]
 refine mk31 (n:=m.nodes.length) rfl rfl (by omega) fun g hg=>⟨⟨some ⟨g,0,none⟩,m.nodes.length,m.nodes.length⟩,rfl,?_⟩
 have C0:=qHW hg (n:=m.nodes.length) (by omega)
 obtain⟨V1,hV1⟩:∃V1,V1=V.set g (.cells (madeCells ((Value.int .i64 0).cells) (m.nodes.length*1)) 3 (0,0)):=⟨_,rfl⟩
 rw[<- hV1]at C0 ⊢
 obtain⟨out,hout⟩:∃out:Sl,out=⟨some ⟨g,0,none⟩,m.nodes.length,m.nodes.length⟩:=⟨_,rfl⟩
 rw[<- hout]at C0 ⊢
 refine Tri.mono (c80 (V0:=V1) (l:=⟨none,0,0⟩) (xs:=[]) (Own.nil (Mem.sub.refl _) _ _) Nds.nil hN hns) ?_
 rintro _ V2 ⟨o0,rfl,ho0⟩
 have C2:=Own.growS C0 ho0.sub
 have hd2:=hd.sub C2.sub
 have hm2:=hm.sub C2.sub
 haveI:Tab V2:=Tab.sub (V:=V) inferInstance C2.sub
 have ok:=qKV hmv k
 have far:∀{U U':Mem} {q:Sl} {ys:List Int},V1.sub U->Sx.Own U U' 3 1 q (ys.flatMap qAf)->∀c,Blk q c->¬Blk out c:=fun {U U' q ys} hs o c hc ho=>by
  have h0:=Own.none0 o hc
  obtain⟨cur,h⟩:=Own.some C0 ho
  rw[hs _ _ h]at h0;cases h0
 have fin:k<4->∀V' zs',Sx.Own V V' 3 1 out (zs'.flatMap qAf)->qET m.nodes.length (qDH d m k) size zs'->R (rV (uL out)) V':=fun h V' zs' o P=>by
  rw[hR]
  exact⟨out,zs',rfl,o,by grind [qAL]⟩
 refine⟨o0,rfl,fun c=>?_,fun c2=>⟨fun c=>?_,fun c3=>⟨fun c=>?_,fun c4=>?_⟩⟩⟩
 ·have c:k=2:=c
  refine Tri.mono (c81 hmv hd2 hm2) ?_
  rintro _ V3 ⟨s,rfl,o3⟩
  have e:qDH d m k=qDa d m:=by grind [qDH]
  rw[e]at ok fin
  exact⟨s,rfl,qGX (Own.growS C2 o3.sub) List.length_replicate (qEC o3) (far ho0.sub o3) ok.1 hN hs.1 (fin (by omega))⟩
 ·have c:k=3:=c
  refine Tri.mono (c82 hv hmv hd2 hm2) ?_
  rintro _ V3 ⟨s,rfl,o3⟩
  have e:qDH d m k=qJs d m:=by grind [qDH]
  rw[e]at ok fin
  exact⟨s,rfl,qGX (Own.growS C2 o3.sub) List.length_replicate (qEC o3) (far ho0.sub o3) ok.1 hN hs.1 (fin (by omega))⟩
 ·have c:k=4:=c
  obtain⟨N,hNd⟩:∃N,N=m.nodes.length:=⟨_,rfl⟩
  refine⟨⟨by omega,by omega⟩,mk162 (n:=m.nodes.length+1) rfl rfl (by omega) fun g2 hg2=>⟨⟨some ⟨g2,0,none⟩,m.nodes.length+1,m.nodes.length+1⟩,rfl,?_⟩⟩
  have B0:=qIJ hg2 (n:=m.nodes.length+1) (by omega)
  obtain⟨V3,hV3⟩:∃V3,V3=V2.set g2 (.cells (madeCells ((Value.bool false).cells) ((m.nodes.length+1)*1)) 4 (0,0)):=⟨_,rfl⟩
  rw[<- hV3]at B0 ⊢
  obtain⟨gs,hgs⟩:∃gs:Sl,gs=⟨some ⟨g2,0,none⟩,m.nodes.length+1,m.nodes.length+1⟩:=⟨_,rfl⟩
  rw[<- hgs]at B0 ⊢
  haveI:Tab V3:=Tab.sub (V:=V2) inferInstance B0.sub
  refine Tri.mono (c81 hmv (hd2.sub B0.sub) (hm2.sub B0.sub)) ?_
  rintro _ V4 ⟨os,rfl,o4⟩
  refine⟨os,rfl,?_⟩
  have dok:=qHg hmv
  have CL0:Clu V V4 out gs os (List.replicate m.nodes.length 0) (List.replicate (m.nodes.length+1) false) (qDa d m):=⟨Own.growS C2 (B0.sub.trans o4.sub),(Own.growS B0 o4.sub).narrow C2.sub,qEC o4,far (ho0.sub.trans B0.sub) o4⟩
  have hOl:=dok.1.len
  -- the clusters of the first nodes of the order
  refine⟨fun n ys V5=>∃(i:Nat) (cls:List (List Int)) (zs:List Int) (F:List Bool),ys=[.int .i64 cls.length,.int .i64 i]/\i<=(qDa d m).length/\n=(qDa d m).length-i/\cls=((qDa d m).take i).foldl (cluS d m size) []/\CluI m.nodes.length size cls/\Clu V V5 out gs os zs F (qDa d m)/\CluOf m.nodes.length size cls zs/\qDT m.nodes.length F cls.flatten [],(qDa d m).length,⟨0,[],_,_,rfl,Nat.zero_le _,rfl,rfl,⟨Nds.nil,by simp⟩,CL0,⟨List.length_replicate,by simp⟩,⟨List.length_replicate,fun j hj=>by simp_all⟩⟩,?_⟩
  rintro n V5 v16 v17 ⟨i,cls,zs,F,hys,hi,rfl,hcl,hI,CL,hOf,hF⟩ J hJ
  simp only[List.cons.injEq,Value.int.injEq,true_and,and_true]at hys
  obtain⟨rfl,rfl⟩:=hys
  have hor:=CL.os_.rows (row:=qAf) (xs:=qDa d m) (fun _=>rfl) (by decide)
  have hcll:=hI.len
  refine⟨fun hlt=>?_,fun hge=>?_⟩
  ·obtain⟨x,hxm,hx,-,hil,hp,hz,hrow⟩:=hor.get hlt
   have hxr:=dok.1.rng x hxm
   have hsu:=hor.succ hlt
   have e:((qDa d m).take (i+1)).foldl (cluS d m size) []=cluS d m size cls x:=by rw[qCz hx,List.foldl_append,<- hcl];rfl
   obtain⟨I1,-,-⟩:=hI.step hmv hs.1 hxr
   obtain⟨j,rfl⟩:∃j:Nat,x=(j:Int):=⟨x.toNat,by omega⟩
   obtain⟨b1,b2,b3,b4⟩:=bool_at (CL.og.rows (fun _=>rfl) (by decide)) (hF.2 j (by omega))
   refine⟨hp,hz,hlt,_,hrow,b1,b2,b3,_,b4,fun c=>⟨hsu,hJ ((qDa d m).length-(i+1)) _ _ (by omega) ⟨i+1,cls,zs,F,rfl,hil,rfl,?_,hI,CL,hOf,hF⟩⟩,fun c=>⟨b1,b2,b3,?_⟩⟩
   ·grind [cluS]
   ·have c:¬((j:Int)∈cls.flatten∨(j:Int)∈[]):=fun h=>c (decide_eq_true h)
    have hnot:(j:Int) ∉ cls.flatten:=fun h=>c (.inl h)
    have ec:cluS d m size cls (j:Int)=cls++[qDV d m [(j:Int)] size cls.flatten]:=by grind [cluS]
    obtain⟨w1,w2,w3,w4⟩:=clu_new hmv hs.1 hxr hnot
    refine CL.mark (j:=j) (by rw[hF.1];omega) fun V6 CL6 b hb=>?_
    refine Tri.mono (spreadC (size:=size) (b:=b) (n:=(j:Int)) (but:=cls.flatten) hv hmv hd hm CL6 hb (hF.mark (by omega)) hxr ⟨g2,hgs⟩) ?_
    rintro _ V8 ⟨s8,rfl,F8,CL8,hF8,os8,hd8⟩
    refine⟨s8,rfl,?_⟩
    obtain⟨W,hW⟩:∃W,W=qDV d m [(j:Int)] size cls.flatten:=⟨_,rfl⟩
    rw[<- hW]at hF8 os8 ec w1 w2 w3 w4
    refine qLe W.length (fun t V9=>∃zs':List Int,Clu V V9 out gs os zs' F8 (qDa d m)/\Sx.Own (fun _=>none) V9 3 1 s8 (W.flatMap qAf)/\CluOf m.nodes.length size cls zs'/\∀y∈W.take t,zs'[(y-1).toNat]?=some ((cls.length:Nat):Int)) ⟨zs,CL8,os8,hOf,by simp⟩ ?_
    rintro t V9 J1 ht ⟨zs9,CL9,os9,hOf9,hall9⟩ hJ1
    have hwr:=os9.rows (row:=qAf) (xs:=W) (fun _=>rfl) (by decide)
    have hzr:=CL9.oo.rows (row:=qAf) (xs:=zs9) (fun _=>rfl) (by decide)
    refine⟨fun hlt9=>?_,fun hge9=>?_⟩
    ·obtain⟨y,hym,hy,-,htl,hp9,hz9,hrow9⟩:=hwr.get hlt9
     have hyr:=w1.rng y hym
     obtain⟨q,hq⟩:∃q:Nat,y-1=(q:Int):=⟨(y-1).toNat,by omega⟩
     have hzl:=hOf9.len
     obtain⟨c1,c2,c3,-⟩:=qDL hzr (List.getElem?_eq_getElem (show q<zs9.length by omega))
     refine⟨hp9,hz9,hlt9,_,hrow9,⟨by omega,by omega⟩,c1,by omega,by omega,?_⟩
     rw[hq,Int.toNat_natCast]
     refine CL9.place os9 hd8 (j:=q) (by omega) fun V10 CL10 os10=>⟨hwr.succ hlt9,hJ1 htl _ ⟨_,CL10,os10,⟨by grind,fun a c' hc' z hz'=>?_⟩,fun z hz'=>?_⟩⟩
     ·have hne:z≠y:=fun h=>w3 y hym (by grind [List.mem_flatten,List.mem_of_getElem?])
      have hzr':=hI.nds.rng z (List.mem_flatten.2 ⟨c',List.mem_of_getElem? hc',hz'⟩)
      rw[List.getElem?_set_ne (by omega)]
      exact hOf9.at_ a c' hc' z hz'
     ·by_cases h:z=y
      ·rw[h,hq,Int.toNat_natCast,List.getElem?_set_self (by omega)]
      ·rw[qCz hy]at hz'
       have hz':z∈W.take t:=by
        rcases List.mem_append.1 hz' with h1|h1
        ·exact h1
        grind
       have hzr':=w1.rng z (List.mem_of_mem_take hz')
       rw[List.getElem?_set_ne (by omega)]
       exact hall9 z hz'
    ·have hd9:=(hwr.done hge9).2
     rw[List.take_of_length_le hd9]at hall9
     have hI1:=I1
     rw[ec]at hI1
     have hl1:=hI1.len
     rw[List.length_append,List.length_singleton]at hl1
     refine⟨⟨by omega,by omega⟩,hsu,hJ ((qDa d m).length-(i+1)) _ _ (by omega) ⟨i+1,cls++[W],zs9,F8,?_,hil,rfl,by rw[e,ec],hI1,CL9,⟨hOf9.len,fun a c' hc' z hz'=>?_⟩,⟨hF8.1,fun a ha=>?_⟩⟩⟩
     ·rw[List.length_append,List.length_singleton];rfl
     ·by_cases h:a<cls.length
      ·rw[List.getElem?_append_left h]at hc'
       exact hOf9.at_ a c' hc' z hz'
      ·rw[List.getElem?_append_right (by omega)]at hc'
       have ha0:a-cls.length=0:=by
        grind
       rw[ha0]at hc'
       cases hc'
       rw[hall9 z hz',show a=cls.length by omega]
     ·rw[hF8.2 a ha]
      congr 1
      rw[List.flatten_append,List.flatten_singleton]
      simp
  ·have hdn:=(hor.done hge).2
   rw[List.take_of_length_le hdn]at hcl
   rw[hR]
   refine⟨out,zs,rfl,CL.oo,?_⟩
   unfold qAL
   rw[if_neg (by omega)]
   rw[hcl]at hOf;exact hOf
 ·have c2:¬k=2:=c2
  have c3:¬k=3:=c3
  have c4:¬k=4:=c4
  have e:qDH d m k=qIE [] m.nodes.length:=by grind [qDH]
  rw[e]at ok fin
  exact qGX C2 List.length_replicate (qEC ho0) (far (Mem.sub.refl _) ho0) ok.1 hN hs.1 (fin (by omega))
end
def plF(d:Ds)(m:Mm)(k size:Int):Int:=if qAu d m=true then (if 1<=k/\k<=4/\1<=size/\size<=64 then 0 else 2) else 1
section
variable{V:Mem}{d:Ds}{m:Mm}{size:Nat}
theorem c14[Tab V](hd:Ds.Ok V d)(hm:Mm.Ok V m){k size:Int} :
  Tri Tryz.prog 14 #[d.v,m.v,.int .i64 k,.int .i64 size] V fun e V'=>∃s:Sl,e=.returned (.tuple #[s.v,.int .i64 (plF d m k size)])/\V.sub V'/\(plF d m k size≠0->s.n=0)/\(plF d m k size=0->∃zs,Sx.Own V V' 3 1 s (zs.flatMap qAf)/\qAL d m k size.toNat zs):=by
 obtain⟨R,hR⟩:∃R:Ending->Mem->Prop,R=fun e V'=>∃s:Sl,e=.returned (.tuple #[s.v,.int .i64 (plF d m k size)])/\V.sub V'/\(plF d m k size≠0->s.n=0)/\(plF d m k size=0->∃zs,Sx.Own V V' 3 1 s (zs.flatMap qAf)/\qAL d m k size.toNat zs):=⟨_,rfl⟩
 rw[<- hR]
 refine x14 ?_
 unfold w14
 have bad:∀f:Int,f≠0->plF d m k size=f->R (.returned (.tuple #[.slice none 0 0,.int .i64 f])) V:=fun f h0 hf=>by
  rw[hR]
  exact⟨⟨none,0,0⟩,by rw[hf];rfl,Mem.sub.refl _,fun _=>rfl,fun h=>absurd (hf.symm.trans h) h0⟩
 refine(c44 hd hm).call ⟨_,rfl,fun hmv=>?_,fun h=>bad 1 (by decide) (by grind [plF])⟩
 have out:¬(1<=k/\k<=4/\1<=size/\size<=64)->R (.returned (.tuple #[.slice none 0 0,.int .i64 2])) V:=fun h=>bad 2 (by decide) (by grind [plF])
 refine⟨fun h=>out (by omega),fun h1=>⟨fun h=>out (by omega),fun h2=>⟨fun h=>out (by omega),fun h3=>⟨fun h=>out (by omega),fun h4=>?_⟩⟩⟩⟩
 obtain⟨z,rfl⟩:∃z:Nat,size=(z:Int):=⟨size.toNat,by omega⟩
 refine Tri.mono (c45 (size:=z) (by grind [qAu,qJz]) hmv hd hm (k:=k) (by omega) (by omega)) ?_
 rintro _ V2 ⟨s,zs,rfl,o,P⟩
 have e:plF d m k z=0:=by grind [plF]
 refine⟨s,rfl,?_⟩
 rw[hR]
 exact⟨s,by rw[e];rfl,o.sub,fun h=>absurd e h,fun _=>⟨zs,o,by simp_all⟩⟩
end
noncomputable def exE(d:Ds)(m:Mm)(size most fuel:Int):Int:=if qAN d m 0=0 then (if 1<=size/\size<=64/\1<=most/\most<=1000/\0<=fuel/\fuel<=1048576 then 0 else 2) else qAN d m 0
structure Pt (V0 V:Mem) (p t:Sl) (xs ys:List Int):Prop where
 op:Sx.Own V0 V 3 1 p (xs.flatMap qAf)
 ot:Sx.Own V0 V 3 1 t (ys.flatMap qAf)
 dj:∀c,Blk p c->¬Blk t c
section
variable{V0 V V':Mem}{p t:Sl}{xs ys zs:List Int}
theorem Pt.pushP(h:Pt V0 V p t xs ys){q:Sl}(o:Sx.Own (V.but p) V' 3 1 q (zs.flatMap qAf)):Pt V0 V' q t zs ys:=by
 obtain⟨h1,h2,h3⟩:=qFC h.op o
 exact⟨h1,Own.moveB h.ot h1.sub fun g cur hg hc=>by rw[h2 g (fun hb=>h.dj g hb hg) (qDl h.ot hg)];exact hc,fun c hc ht=>(h3 c hc).elim (fun hb=>h.dj c hb ht) (qDl h.ot ht)⟩
theorem Pt.pushT(h:Pt V0 V p t xs ys){q:Sl}(o:Sx.Own (V.but t) V' 3 1 q (zs.flatMap qAf)):Pt V0 V' p q xs zs:=by
 obtain⟨h1,h2,h3⟩:=qFC h.ot o
 exact⟨Own.moveB h.op h1.sub fun g cur hg hc=>by rw[h2 g (fun hb=>h.dj g hg hb) (qDl h.op hg)];exact hc,h1,fun c hc ht=>(h3 c ht).elim (fun hb=>h.dj c hc hb) (qDl h.op hc)⟩
end
section
variable{V:Mem}{d:Ds}{m:Mm}
theorem c51[Tab V](hd:Ds.Ok V d)(hm:Mm.Ok V m){size most fuel:Int}:Tri Tryz.prog 51 #[d.v,m.v,.int .i64 size,.int .i64 most,.int .i64 fuel] V fun e V'=>e=.returned (.int .i64 (exE d m size most fuel))/\V.sub V':=by
 refine x51 ?_
 unfold w51
 have e:scrE d 0 m []=qAN d m 0:=by
  unfold scrE
  by_cases h:qAN d m 0=0
  ·rw[if_pos h,h];rfl
  ·rw[if_neg h]
 refine Tri.mono (c33 hd hm (l:=qAC) (cs:=[]) ⟨qAc.nil,by simp⟩ (F:=0) (.inl (by omega))) ?_
 rintro _ V1 ⟨hs,⟨h0,rfl⟩|⟨h0,o,a,b,nd,-,-,-,-,rfl⟩⟩
 ·rw[e]at h0
  refine⟨qAC,qAC,qAC,_,rfl,fun h=>absurd (e ▸ h) h0,fun _=>⟨?_,hs⟩⟩
  unfold exE
  rw[if_neg h0,e]
 ·rw[e]at h0
  have out:¬(1<=size/\size<=64/\1<=most/\most<=1000/\0<=fuel/\fuel<=1048576)->exE d m size most fuel=2:=fun h=>by unfold exE;rw[if_pos h0,if_neg h]
  have bad:¬(1<=size/\size<=64/\1<=most/\most<=1000/\0<=fuel/\fuel<=1048576)->Ending.returned (.int .i64 2)=.returned (.int .i64 (exE d m size most fuel))/\V.sub V1:=fun h=>⟨by rw[out h],hs⟩
  refine⟨o,a,b,0,rfl,fun _=>⟨fun h=>bad (by omega),fun h1=>⟨fun h=>bad (by omega),fun h2=>⟨fun h=>bad (by omega),fun h3=>⟨fun h=>bad (by omega),fun h4=>⟨fun h=>bad (by omega),fun h5=>⟨fun h=>bad (by omega),fun h6=>⟨?_,hs⟩⟩⟩⟩⟩⟩⟩,fun h=>absurd rfl h⟩
  unfold exE
  rw[if_pos h0,if_pos (by omega)]
end
end Go.Proofs
namespace Go.Proofs
open Go Go.Sx
def blkS(size:Int)(s:List Int×List Int)(a:Int×Int×Int):List Int×List Int :=
 (if a.1=3 then s.1++[qCG s.1 size] else s.1,if 0<a.2.1 then s.2++[(if a.1=3 then s.1++[qCG s.1 size] else s.1).getD (a.2.1-1).toNat 0] else s.2)
def qCD(size:Int)(lg:List (Int×Int×Int))(pl:List Int):List Int×List Int:=lg.foldl (blkS size) (pl,[])
theorem qFl{size:Int}{lg:List (Int×Int×Int)}{pl:List Int}{i:Nat}{a:Int×Int×Int}(h:lg[i]?=some a):qCD size (lg.take (i+1)) pl=blkS size (qCD size (lg.take i) pl) a:=by
 grind [qCD,List.take_add_one]
theorem qEW{α:Type}{p:Nat->Prop}(l:List α)(h0:p 0)(h:∀i a,l[i]?=some a->p i->p (i+1)):∀i,i<=l.length->p i
 | 0,_=>h0
 | i+1,hi=>h i _ (List.getElem?_eq_getElem (show i<l.length by omega)) (qEW l h0 h i (by omega))
theorem qLC{l:List (Int×Int×Int)}{i:Nat}{x:Int×Int×Int}(h:l[i]?=some x):alN (l.take (i+1))=alN (l.take i)+if x.1=3 then 1 else 0:=by
 unfold alN
 rw[List.take_add_one,h,List.filter_append,List.length_append]
 grind
section
variable{size:Int}{lg:List (Int×Int×Int)}{pl:List Int}
theorem blk_len(i:Nat)(hi:i<=lg.length):(qCD size (lg.take i) pl).1.length=pl.length+alN (lg.take i):=by
 refine qEW (p:=fun i=>(qCD size (lg.take i) pl).1.length=pl.length+alN (lg.take i)) lg rfl (fun i a h ih=>?_) i hi
 rw[qFl h,qLC h]
 grind [blkS]
theorem blk_tr(i:Nat)(hi:i<=lg.length):(qCD size (lg.take i) pl).2.length=qBa (lg.take i):=by
 refine qEW (p:=fun i=>(qCD size (lg.take i) pl).2.length=qBa (lg.take i)) lg rfl (fun i a h ih=>?_) i hi
 rw[qFl h,qIM h]
 unfold blkS
 by_cases c:0<a.2.1
 ·simp_all
 grind
theorem furth_hi{l:List Int}{M:Int}(h:∀b∈l,b<=M)(h0:-1<=M):qCG l size<=M+1:=by
 obtain⟨h1,h2,h3,-⟩:=qDK l
 grind [qEd,qCG]
theorem blk_rng{M:Int}(h:∀b∈pl,0<=b/\b<=M)(h0:-1<=M)(i:Nat)(hi:i<=lg.length):(∀b∈(qCD size (lg.take i) pl).1,0<=b/\b<=M+alN (lg.take i))/\∀b∈(qCD size (lg.take i) pl).2,0<=b/\b<=M+alN (lg.take i)+1:=by
 refine qEW (p:=fun i=>(∀b∈(qCD size (lg.take i) pl).1,0<=b/\b<=M+alN (lg.take i))/\∀b∈(qCD size (lg.take i) pl).2,0<=b/\b<=M+alN (lg.take i)+1) lg ⟨fun b hb=>?_,fun b hb=>by cases hb⟩ (fun i a h ih=>?_) i hi
 ·have:=h b hb
  omega
 obtain⟨ih1,ih2⟩:=ih
 have hn:=qLC h
 have key:∀b∈(if a.1=3 then (qCD size (lg.take i) pl).1++[qCG (qCD size (lg.take i) pl).1 size] else (qCD size (lg.take i) pl).1),0<=b/\b<=M+alN (lg.take (i+1)):=fun b hb=>by
  by_cases c:a.1=3
  ·rw[if_pos c]at hb hn
   rcases List.mem_append.1 hb with hb|hb
   ·grind
   ·rw[List.mem_singleton.1 hb]
    have h1:=qLo (qCD size (lg.take i) pl).1 size
    have h2:=furth_hi (size:=size) (fun b hb=>(ih1 b hb).2) (by omega)
    omega
  simp_all
 rw[qFl h]
 unfold blkS
 refine⟨key,fun b hb=>?_⟩
 by_cases c:0<a.2.1
 ·simp only[if_pos c]at hb
  rcases List.mem_append.1 hb with hb|hb
  ·grind
  ·rw[List.mem_singleton.1 hb,List.getD_eq_getElem?_getD]
   cases e:(if a.1=3 then (qCD size (lg.take i) pl).1++[qCG (qCD size (lg.take i) pl).1 size] else (qCD size (lg.take i) pl).1)[(a.2.1-1).toNat]? with
   | none=>simp only[Option.getD_none];omega
   | some y=>have:=key y (List.mem_of_getElem? e);simp only[Option.getD_some];omega
 grind
theorem blk_plc(h:Plc pl size)(hl:Low pl)(hs:1<=size)(hn:pl.length+alN lg<=4096)(i:Nat)(hi:i<=lg.length):Plc (qCD size (lg.take i) pl).1 size/\Low (qCD size (lg.take i) pl).1:=by
 have mono:∀j,j<=lg.length->alN (lg.take j)<=alN lg:=fun j _=>by
  grind [alN,List.take_sublist]
 refine qEW (p:=fun i=>Plc (qCD size (lg.take i) pl).1 size/\Low (qCD size (lg.take i) pl).1) lg ⟨h,hl⟩ (fun i a h ih=>?_) i hi
 have hlt:=(List.getElem?_eq_some_iff.1 h).1
 have h1:=qLC h
 have h2:=mono (i+1) hlt
 have h3:=blk_len (size:=size) (pl:=pl) i (Nat.le_of_lt hlt)
 rw[qFl h]
 unfold blkS
 by_cases c:a.1=3
 ·simp only[if_pos c]at h1 ⊢
  grind [furth_ok]
 simp_all
end
end Go.Proofs
namespace Go.Proofs
open Go Go.Sx
attribute [local irreducible] Go.Sx.Tri
theorem alN_le(l:List (Int×Int×Int))(i:Nat):alN (l.take i)<=i:=by
 unfold alN
 refine Nat.le_trans (List.length_filter_le _ _) ?_
 rw[List.length_take];omega
section
variable{V V0:Mem}{d:Ds}{F:Nat}{m:Mm}{nm:ByteArray}{args:List Int}{l:Sl}
theorem play_gr(G:qAv d m)(hc:qCH d m nm args=0):Gr F 0 (qCd m) (qCo d F (qDr d nm) args (qCd m)).st:=by
 obtain⟨i,q,hi,hq,hval⟩:=qJq hc
 rw[hi]
 exact(play_snd (F:=F) (qHU G.valid G.chk) hq (qLl G) (qAo (qDY (qEY m).symm) hval)).gr
end
section
variable{size:Int}{lg:List (Int×Int×Int)}{pl:List Int}
theorem blk_pl0(h:Pl0 pl size)(hs:1<=size)(i:Nat)(hi:i<=lg.length):Pl0 (qCD size (lg.take i) pl).1 size:=by
 refine qEW (p:=fun i=>Pl0 (qCD size (lg.take i) pl).1 size) lg h (fun i a h ih=>?_) i hi
 rw[qFl h]
 unfold blkS
 by_cases c:a.1=3
 ·simp_all [if_pos,furth_pl0]
 simp_all
end
section
variable{V:Mem}{d:Ds}{m:Mm}{nm:ByteArray}{args pl:List Int}{F:Nat}{size:Int}
theorem qKR(h:qBr d m nm args F=0):qKu m.nodes.length (qCo d F (qDr d nm) args (qCd m)).st.lg (qCo d F (qDr d nm) args (qCd m)).st.ns.length/\(qCo d F (qDr d nm) args (qCd m)).st.lg.length<=4000*F:=by
 obtain⟨G,hc⟩:=qEX h
 have g:=play_gr (F:=F) G hc
 generalize (qCo d F (qDr d nm) args (qCd m)).st=s at g ⊢
 obtain⟨l,h1,h2,-⟩:=g.lg
 have h3:=g.fu (Nat.zero_le _)
 have h4:=g.w
 have e:(qCd m).lg=[]:=rfl
 rw[e,List.nil_append]at h1
 subst h1
 rw[show (qCd m).ns.length=m.nodes.length from List.length_map ..]at h2
 rw[show (qCd m).lg.length=0 from rfl,show (qCd m).cm=0 from rfl,show (qCd m).tk=0 from rfl]at h4
 grind
def ExtP(V:Mem)(d:Ds)(F:Nat)(m:Mm)(nm:ByteArray)(args pl:List Int)(size:Int):Ending->Mem->Prop:=fun e V' =>
 (qBr d m nm args F≠0/\V.sub V'/\e=.returned (.tuple #[.agg #[.int .i64 0,.int .i64 0,.int .i64 0,.int .i64 0,.int .i64 0,qAC.v,qAC.v,qAC.v,qAC.v],.int .i64 (qBr d m nm args F)])) ∨
 (qBr d m nm args F=0/\∃r:Rx Int,∃(gs ns ls:Sl) (nd:List Nd) (p t:Sl),r=qCo d F (qDr d nm) args (qCd m)/\Lay V V' gs ns ls nd r.st/\Pt V V' p t (qCD size r.st.lg pl).1 (qCD size r.st.lg pl).2/\e=.returned (.tuple #[.agg #[.int .i64 (outC r),.int .i64 (outV r),.int .i64 r.st.cm,.int .i64 (qBa r.st.lg),.int .i64 0,gs.v,ns.v,p.v,t.v],.int .i64 0]))
theorem c52[Tab V]{l ps:Sl}{M:Int}(hd:Ds.Ok V d)(hm:Mm.Ok V m)(ha:qAc V l 1 (args.map qAf))(hF:F<=4000)(hp:qAc V ps 1 (pl.map qAf))(hpl:pl.length=m.nodes.length)(h0:Pl0 pl size)(hs:1<=size)(hb:∀b∈pl,b<=M)(hM:-1<=M/\M<=100000)(hN:∀r,r=qCo d F (qDr d nm) args (qCd m)->qBr d m nm args F=0->r.st.ns.length<=4096) :
  Tri Tryz.prog 52 #[d.v,m.v,ps.v,.int .i64 size,.agg #[.string nm,l.v],.int .i64 F] V (ExtP V d F m nm args pl size):=by
 obtain⟨R,hR⟩:∃R,R=ExtP V d F m nm args pl size:=⟨_,rfl⟩
 rw[<- hR]
 refine x52 ?_
 unfold w52
 refine Tri.mono (c24 hd hm ha hF) ?_
 rintro _ V1 (⟨hc,s1,rfl⟩|⟨hc,r,gs,ns,ls,nd,hr,L,rfl⟩)
 ·refine⟨0,0,0,0,0,qAC,qAC,_,rfl,fun h=>absurd h hc,fun _=>?_⟩
  rw[hR];exact .inl ⟨hc,s1,rfl⟩
 have s1:=L.sub
 haveI:Tab V1:=Tab.sub (V:=V) inferInstance s1
 refine⟨_,_,_,_,_,_,_,_,rfl,fun _=>?_,fun h=>absurd rfl h⟩
 refine Tri.mono (c36 (nm:=nm) (hd.sub s1) (hm.sub s1) (ha.sub s1) hF) ?_
 rintro _ V2 (⟨hc2,-,-⟩|⟨-,r2,lt,hr2,ol,rfl⟩)
 ·exact absurd hc hc2
 rw[<- hr]at hr2
 subst hr2
 refine⟨lt,_,rfl,fun _=>?_,fun h=>absurd rfl h⟩
 have s2:=s1.trans ol.sub
 obtain⟨hlog,hlen⟩:=qKR hc
 rw[<- hr]at hlog hlen
 have hns:=hN _ hr hc
 refine Tri.mono (c42 (hp.sub s2) (by rw[hpl];have:=hlog.len;omega)) ?_
 rintro _ V3 ⟨p3,rfl,o3⟩
 refine⟨p3,rfl,?_⟩
 have hln:=hlog.len
 have T0:Pt V2 V3 p3 ⟨none,0,0⟩ pl []:=⟨o3,Own.nil o3.sub _ _,fun c _ h=>absurd rfl h.1⟩
 refine⟨fun n ys V4=>∃(i:Nat) (p t:Sl),ys=[.int .i64 (outC r2),.int .i64 (outV r2),.int .i64 r2.st.cm,.int .i64 (qBa r2.st.lg),.int .i64 0,gs.v,ns.v,p.v,t.v,.int .i64 i]/\i<=r2.st.lg.length/\n=r2.st.lg.length-i/\Pt V2 V4 p t (qCD size (r2.st.lg.take i) pl).1 (qCD size (r2.st.lg.take i) pl).2,r2.st.lg.length,⟨0,p3,⟨none,0,0⟩,rfl,Nat.zero_le _,rfl,T0⟩,?_⟩
 rintro n V4 v26 v27 v28 v29 v30 v31 v32 v33 v34 v35 ⟨i,p,t,hys,hi,rfl,T⟩ J hJ
 simp only[List.cons.injEq,Value.int.injEq,true_and,and_true]at hys
 obtain⟨rfl,rfl,rfl,rfl,rfl,h5,h6,h7,h8,rfl⟩:=hys
 cases qBc _ _ h5;cases qBc _ _ h6;cases qBc _ _ h7;cases qBc _ _ h8
 have hlr:=(Own.growS ol (T.op.sub)).rows (row:=qHH) (xs:=r2.st.lg) (fun _=>rfl) (by decide)
 refine⟨fun hlt=>?_,fun hge=>?_⟩
 ·obtain⟨a,ham,hia,-,hil,hpn,hz,hrow⟩:=hlr.get hlt
  obtain⟨k1,k2,k3,k4,-⟩:=hlog.at_ i a hia
  have hS:=qFl (size:=size) (pl:=pl) hia
  have hbl:=blk_len (size:=size) (pl:=pl) i (Nat.le_of_lt hil)
  have hbt:=blk_tr (size:=size) (pl:=pl) i (Nat.le_of_lt hil)
  have hal:=alN_le r2.st.lg i
  have hnl:qBa (r2.st.lg.take i)<=16000000:=by
   grind [qBa]
  have hmono:alN (r2.st.lg.take i)<=alN r2.st.lg:=by
   grind [alN,List.take_sublist]
  refine⟨hpn,hz,hlt,a.1,a.2.1,a.2.2,hrow,fun c=>?_,fun c=>?_⟩
  ·have c:a.1=3:=c
   have hrg:=(blk_rng (size:=size) (lg:=r2.st.lg) (pl:=pl) (M:=M) (fun b hb'=>⟨h0.lo b hb',hb b hb'⟩) hM.1 i (Nat.le_of_lt hil)).1
   refine(c41 (size:=size) (T.op.rows (row:=qAf) (fun _=>rfl) (by decide)) (blk_pl0 h0 hs i (Nat.le_of_lt hil)) (fun b hb'=>by grind)).call ⟨_,rfl,fun b5 hb5=>?_⟩
   refine oneG (row:=qAf) qFO (x:=qCG (qCD size (r2.st.lg.take i) pl).1 size) (s:=v33) T.op.but hb5 (by omega) rfl rfl (fun _=>rfl) fun s5 V5 o5=>⟨s5,rfl,?_⟩
   have T5:=T.pushP o5
   obtain⟨X,hX⟩:∃X,X=(if a.1=3 then (qCD size (r2.st.lg.take i) pl).1++[qCG (qCD size (r2.st.lg.take i) pl).1 size] else (qCD size (r2.st.lg.take i) pl).1):=⟨_,rfl⟩
   have hX2:=hX
   rw[if_pos c]at hX2
   rw[<- hX2]at T5
   have hXl:X.length=pl.length+alN (r2.st.lg.take i)+1:=by simp_all
   have:=k2 c
   refine⟨fun c2=>?_,fun c2=>?_⟩
   ·have c2:0<a.2.1:=c2
    obtain⟨q,hq⟩:∃q:Nat,a.2.1-1=(q:Int):=⟨(a.2.1-1).toNat,by omega⟩
    obtain⟨d1,d2,d3,d4⟩:=qDL (T5.op.rows (row:=qAf) (xs:=X) (fun _=>rfl) (by decide)) (List.getElem?_eq_getElem (show q<X.length by omega))
    rw[hq]
    refine⟨⟨by omega,by omega⟩,d1,d2,d3,_,d4,fun b hb=>?_⟩
    refine oneG (row:=qAf) qFO (x:=X[q]'(by omega)) (s:=v34) T5.ot.but hb (by omega) rfl rfl (fun _=>rfl) fun s6 V6 o6=>⟨s6,rfl,hlr.succ hlt,?_⟩
    refine hJ (r2.st.lg.length-(i+1)) _ _ (by omega) ⟨i+1,s5,s6,rfl,hil,rfl,?_⟩
    rw[hS]
    have T6:=T5.pushT o6
    unfold blkS
    rw[if_pos c2]
    have e1:X.getD (a.2.1-1).toNat 0=X[q]'(by omega):=by rw[hq,Int.toNat_natCast,List.getD_eq_getElem?_getD,List.getElem?_eq_getElem (show q<X.length by omega)];rfl
    simp_all
   omega
  ·have c:¬a.1=3:=c
   have T5:=T
   obtain⟨X,hX⟩:∃X,X=(if a.1=3 then (qCD size (r2.st.lg.take i) pl).1++[qCG (qCD size (r2.st.lg.take i) pl).1 size] else (qCD size (r2.st.lg.take i) pl).1):=⟨_,rfl⟩
   have hX2:=hX
   rw[if_neg c]at hX2
   rw[<- hX2]at T5
   have hXl:X.length=pl.length+alN (r2.st.lg.take i):=by rw[hX2,hbl]
   have:=k3 c
   refine⟨fun c2=>?_,fun c2=>?_⟩
   ·have c2:0<a.2.1:=c2
    obtain⟨q,hq⟩:∃q:Nat,a.2.1-1=(q:Int):=⟨(a.2.1-1).toNat,by omega⟩
    obtain⟨d1,d2,d3,d4⟩:=qDL (T5.op.rows (row:=qAf) (xs:=X) (fun _=>rfl) (by decide)) (List.getElem?_eq_getElem (show q<X.length by omega))
    rw[hq]
    refine⟨⟨by omega,by omega⟩,d1,d2,d3,_,d4,fun b hb=>?_⟩
    refine oneG (row:=qAf) qFO (x:=X[q]'(by omega)) (s:=v34) T5.ot.but hb (by omega) rfl rfl (fun _=>rfl) fun s6 V6 o6=>⟨s6,rfl,hlr.succ hlt,?_⟩
    refine hJ (r2.st.lg.length-(i+1)) _ _ (by omega) ⟨i+1,v33,s6,rfl,hil,rfl,?_⟩
    rw[hS]
    have T6:=T5.pushT o6
    unfold blkS
    rw[if_pos c2]
    have e1:X.getD (a.2.1-1).toNat 0=X[q]'(by omega):=by rw[hq,Int.toNat_natCast,List.getD_eq_getElem?_getD,List.getElem?_eq_getElem (show q<X.length by omega)];rfl
    simp_all
   ·have c2:¬0<a.2.1:=c2
    refine⟨hlr.succ hlt,hJ (r2.st.lg.length-(i+1)) _ _ (by omega) ⟨i+1,v33,v34,rfl,hil,rfl,?_⟩⟩
    grind [blkS]
 ·have hdn:=(hlr.done hge).2
  rw[List.take_of_length_le hdn]at T
  rw[hR]
  refine .inr ⟨hc,r2,gs,ns,ls,nd,v33,v34,hr,L.grow (ol.sub.trans T.op.sub),⟨T.op.narrow s2,T.ot.narrow s2,T.dj⟩,rfl⟩
end
section
variable{V:Mem}{d:Ds}{m:Mm}{nm:ByteArray}{args pl:List Int}{F:Nat}{size most:Int}
theorem qFa(h:qBr d m nm args F=0):(qCo d F (qDr d nm) args (qCd m)).st.ns.length<=4096:=by
 obtain⟨G,hc⟩:=qEX h
 have g:=qIH (F:=F) G hc
 have h1:=(qAj g.mem).2.1
 generalize (qCo d F (qDr d nm) args (qCd m)).st=s at h1 ⊢
 rw[show s.mm.nodes.length=s.ns.length from List.length_map ..]at h1
 exact h1
noncomputable def exrE(d:Ds)(m:Mm)(pl:List Int)(size most:Int)(nm:ByteArray)(args:List Int)(F:Int):Int:=if exE d m size most F=0 then (if pl.length=m.nodes.length/\plB pl size=true then qBr d m nm args F else 30) else exE d m size most F
theorem ex_zero{F:Int}(h:exE d m size most F=0):qAv d m/\1<=size/\size<=64/\1<=most/\most<=1000/\0<=F/\F<=1048576:=by
 grind [exE,qAN,absurd]
def ExrP(V:Mem)(d:Ds)(F:Int)(m:Mm)(nm:ByteArray)(args pl:List Int)(size most:Int):Ending->Mem->Prop:=fun e V' =>
 (exrE d m pl size most nm args F≠0/\V.sub V'/\e=.returned (.tuple #[.agg #[.int .i64 0,.int .i64 0,.int .i64 0,.int .i64 0,.int .i64 0],.agg #[qAC.v,qAC.v],qAC.v,.int .i64 (exrE d m pl size most nm args F)])) ∨
 (exrE d m pl size most nm args F=0/\∃r:Rx Int,∃(gs ns ls:Sl) (nd:List Nd) (p:Sl),r=qCo d F.toNat (qDr d nm) args (qCd m)/\Lay V V' gs ns ls nd r.st/\qAc V' p 1 ((qCD size r.st.lg pl).1.map qAf)/\e=.returned (.tuple #[.agg #[.int .i64 (outC r),.int .i64 (outV r),.int .i64 r.st.cm,.int .i64 (qBa r.st.lg),.int .i64 (qKf most.toNat [] (qCD size r.st.lg pl).2)],.agg #[gs.v,ns.v],p.v,.int .i64 0]))
theorem c19[Tab V]{l ps:Sl}{fu:Int}(hd:Ds.Ok V d)(hm:Mm.Ok V m)(ha:qAc V l 1 (args.map qAf))(hF:fu<=4000∨1048576<fu)(hp:qAc V ps 1 (pl.map qAf)) :
  Tri Tryz.prog 19 #[d.v,m.v,ps.v,.int .i64 size,.int .i64 most,.agg #[.string nm,l.v],.int .i64 fu] V (ExrP V d fu m nm args pl size most):=by
 obtain⟨R,hR⟩:∃R,R=ExrP V d fu m nm args pl size most:=⟨_,rfl⟩
 rw[<- hR]
 refine x19 ?_
 unfold w19
 have bad:∀{k:Int} {V':Mem},exrE d m pl size most nm args fu=k->k≠0->V.sub V'->R (.returned (.tuple #[.agg #[.int .i64 0,.int .i64 0,.int .i64 0,.int .i64 0,.int .i64 0],.agg #[qAC.v,qAC.v],qAC.v,.int .i64 k])) V':=fun h hk hs=>by rw[hR];exact .inl ⟨by rw[h];exact hk,hs,by rw[h]⟩
 have hnn:=hm.nodes.n_eq
 refine Tri.mono (c51 hd hm) ?_
 rintro _ V1 ⟨rfl,s1⟩
 haveI:Tab V1:=Tab.sub (V:=V) inferInstance s1
 refine⟨_,rfl,fun h0=>?_,fun h0=>⟨fun h=>absurd h h0,fun _=>bad (by grind [exrE]) h0 s1⟩⟩
 have h0:exE d m size most fu=0:=h0
 obtain⟨G,hs1,hs2,hm1,hm2,hf0,hf1⟩:=ex_zero h0
 obtain⟨F,rfl⟩:∃F:Nat,fu=(F:Int):=⟨fu.toNat,by omega⟩
 have hF:F<=4000:=by omega
 refine(c40 (size:=size) (n:=(m.ns.n:Int)) (hp.sub s1)).call ⟨_,rfl,fun h1=>?_,fun h1=>bad (k:=30) ?_ (by decide) s1⟩
 ·have h1:(decide ((pl.length:Int)=(m.ns.n:Int))&&plB pl size)=true:=h1
  rw[Bool.and_eq_true,decide_eq_true_eq,hnn]at h1
  have h1l:pl.length=m.nodes.length:=by omega
  obtain⟨hl4,hplc⟩:=qKT.1 h1.2
  have er:exrE d m pl size most nm args F=qBr d m nm args F:=by grind [exrE]
  refine⟨fun _=>?_,fun h=>absurd h0 h⟩
  refine Tri.mono (c52 (M:=4095) (pl:=pl) (size:=size) (nm:=nm) (hd.sub s1) (hm.sub s1) (ha.sub s1) hF (hp.sub s1) h1l hplc.pl0 hs1 (fun b hb=>by have:=(hplc.rng b hb).2;omega) (by omega) fun r hr hc=>by rw[hr];exact qFa hc) ?_
  rintro _ V2 (⟨hc,s2,rfl⟩|⟨hc,r,gs,ns,ls,nd,p,t,hr,L,T,rfl⟩)
  ·exact⟨0,0,0,0,0,qAC,qAC,qAC,qAC,_,rfl,fun h=>absurd h hc,fun _=>bad er hc (s1.trans s2)⟩
  have s2:=T.op.sub
  obtain⟨hlog,hlen⟩:=qKR hc
  rw[<- hr]at hlog hlen
  have hns:r.st.ns.length<=4096:=by rw[hr];exact qFa hc
  have hln:=hlog.len
  have hrg:=(blk_rng (size:=size) (lg:=r.st.lg) (pl:=pl) (M:=4095) (fun b hb=>⟨(hplc.rng b hb).1,by have:=(hplc.rng b hb).2;omega⟩) (by omega) r.st.lg.length (Nat.le_refl _)).2
  have htl:=blk_tr (size:=size) (lg:=r.st.lg) (pl:=pl) r.st.lg.length (Nat.le_refl _)
  rw[List.take_length]at hrg htl
  have hnl:qBa r.st.lg<=16000000:=by
   grind [qBa]
  refine⟨_,_,_,_,_,gs,ns,p,t,_,rfl,fun _=>?_,fun h=>absurd rfl h⟩
  refine Tri.mono (c53 (m:=most)) ?_
  rintro _ V3 (⟨h,-⟩|⟨-,q,rfl,C⟩)
  ·exact absurd ⟨hm1,hm2⟩ h
  refine⟨some ⟨q,0,none⟩,0,rfl,fun _=>?_,fun h=>absurd rfl h⟩
  refine Tri.mono (c54 C (by omega) (T.ot.rows (row:=qAf) (fun _=>rfl) (by decide)) (fun x hx=>by grind) (by omega)) ?_
  rintro _ V4 ⟨rfl,C4⟩
  refine⟨_,rfl,?_⟩
  have s4:=C4.sub
  rw[hR]
  exact .inr ⟨er.trans hc,r,gs,ns,ls,nd,p,hr,(L.narrow s1).grow s4,(T.op.rows (row:=qAf) (fun _=>rfl) (by decide)).sub s4,rfl⟩
 grind [exrE]
end
section
variable{V:Mem}{d:Ds}{m:Mm}
theorem c10(hd:Ds.Ok V d)(hm:Mm.Ok V m){fu:Int}:Tri Tryz.prog 10 #[d.v,m.v,.int .i64 fu] V fun e V'=>V'=V/\∃b:Bool,e=.returned (.bool b)/\(b=false->fu<=3000∨1048576<fu):=by
 refine x10 ?_
 unfold w10
 refine Tri.mono (greatC hd) ?_
 rintro _ _ ⟨rfl,b,rfl⟩
 refine⟨b,rfl,fun _=>⟨rfl,true,rfl,fun h=>by cases h⟩,fun _=>Tri.mono (manyC hm) ?_⟩
 rintro _ _ ⟨rfl,c,rfl⟩
 refine⟨c,rfl,fun _=>⟨rfl,true,rfl,fun h=>by cases h⟩,fun _=>⟨fun h=>⟨rfl,_,rfl,fun h2=>?_⟩,fun h=>⟨rfl,false,rfl,fun _=>?_⟩⟩⟩
 ·have:=of_decide_eq_false h2
  omega
 ·have h:¬3000<fu:=h
  omega
theorem c18{nm:ByteArray}{l:Sl}:Tri Tryz.prog 18 #[.agg #[.string nm,l.v]] V (RY V):=by
 refine x18 ?_
 unfold w18
 exact⟨fun _=>⟨rfl,true,rfl⟩,fun _=>⟨rfl,_,rfl⟩⟩
end
section
variable{d:Ds}{F:Nat}{m m':Mm}
theorem qGn(h:m.plain=m'.plain)(n:Int):qAM d m n=qAM d m' n:=by
 unfold qAM
 cases hx:m.nodes[(n-1).toNat]? with
 | some x =>
  obtain⟨y,h1,h2,h3⟩:=qFc h hx
  rw[h1];simp only[h2,h3]
 | none =>
  have:m'.nodes[(n-1).toNat]?=none:=by
   rw[List.getElem?_eq_none_iff]at hx ⊢
   rw[<- qCV h];exact hx
  rw[this]
theorem qKp(h:m.plain=m'.plain):∀f:Nat,qCR d m f=qCR d m' f
 | 0=>by funext st n;rw[qCR,qCR]
 | f+1=>by
  funext st n
  rw[qCR,qCR,qGn h,qKp h f]
theorem reachP_plain(h:m.plain=m'.plain):qBt d m=qBt d m':=by
 have hg:m.globals=m'.globals:=(Prod.mk.inj h).1
 unfold qBt lookP
 rw[qCV h,qKp h,hg]
theorem canP_plain(h:m.plain=m'.plain):canP d m=canP d m':=by
 have hg:m.globals=m'.globals:=(Prod.mk.inj h).1
 unfold canP
 rw[reachP_plain h,hg]
 refine Prod.ext rfl (List.map_congr_left fun n _=>?_)
 cases hx:m.nodes[(n-1).toNat]? with
 | some x =>
  obtain⟨y,h1,h2,h3⟩:=qFc h hx
  rw[h1];simp only[h2,h3]
 | none =>
  have:m'.nodes[(n-1).toNat]?=none:=by
   rw[List.getElem?_eq_none_iff]at hx ⊢
   rw[<- qCV h];exact hx
  rw[this]
end
end Go.Proofs
