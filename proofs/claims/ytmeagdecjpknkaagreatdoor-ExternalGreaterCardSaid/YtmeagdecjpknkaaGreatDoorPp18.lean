/- Part 18 of a proof of a law of this seat: no statement of the seat is proved here. -/
import Derived.Test.YtmeagdecjpknkaaGreatDoorPp14
import Derived.Test.YtmeagdecjpknkaaGreatDoorPp17
import Derived.Test.YtmeagdecjpknkaaGreatDoorPp11
import Derived.Test.YtmeagdecjpknkaaGreatDoorPp15
set_option linter.unusedVariables false
set_option linter.unusedSimpArgs false
namespace Go.Proofs
open Go Go.Sx
structure Sr where
 order:List Int
 again:Int
def qES(x:Fld×Int):Bool:=!qDY x.1.ty&&decide (x.2≠0)
def tgtI(l:List Fld)(vs:List Int)(i:Nat):List Int:=(((l.zip vs).take i).filter qES).map (·.2)
def tgt(l:List Fld)(vs:List Int):List Int:=((l.zip vs).filter qES).map (·.2)
def qAO(d:Ds)(m:Mm)(n:Int):List Int:=match m.nodes[(n-1).toNat]? with|some x=>tgt (qAq d x.ty) x.f|none=>[]
def qET(d:Ds)(m:Mm):Nat->Sr->Int->Sr
 | 0,st,_=>st
 | f+1,st,n=>if n∈st.order then ⟨st.order,if st.again=0 then n else st.again⟩ else (qAO d m n).foldl (qET d m f) ⟨st.order++[n],st.again⟩
def lookP(d:Ds)(m:Mm)(f:Nat)(st:Sr)(l:List Fld)(vs:List Int):Sr:=(tgt l vs).foldl (qET d m f) st
def qHX(d:Ds)(m:Mm):Sr:=lookP d m (m.nodes.length+1) ⟨[],0⟩ d.globals m.globals
theorem tgtI_zero(l:List Fld)(vs:List Int):tgtI l vs 0=[]:=rfl
theorem qHL{l:List Fld}{vs:List Int}{i:Nat}{f:Fld}{v:Int}(hf:l[i]?=some f)(hv:vs[i]?=some v):tgtI l vs (i+1)=tgtI l vs i++if qES (f,v)=true then [v] else []:=by
 have hz:(l.zip vs)[i]?=some (f,v):=by rw[List.getElem?_zip_eq_some];exact⟨hf,hv⟩
 unfold tgtI
 rw[List.take_add_one,hz,List.filter_append,List.map_append]
 by_cases h:qES (f,v)=true
 ·simp[h]
 ·simp[h]
theorem tgtI_all{l:List Fld}{vs:List Int}{i:Nat}(h:l.length<=i):tgtI l vs i=tgt l vs:=by
 unfold tgtI tgt
 rw[List.take_of_length_le]
 rw[List.length_zip];omega
def unS(m:Mm)(st:Sr):Nat:=((List.range m.nodes.length).filter fun(i:Nat)=>!decide (((i:Int)+1)∈st.order)).length
theorem entP_sub(d:Ds)(m:Mm):∀(f:Nat) (st:Sr) (n:Int),∀x∈st.order,x∈(qET d m f st n).order
 | 0,st,n,x,h=>h
 | f+1,st,n,x,h=>by
  unfold qET
  split
  ·exact h
  ·have:∀(l:List Int) (s:Sr),x∈s.order->x∈(l.foldl (qET d m f) s).order:=fun l=>by
    induction l with
    | nil=>exact fun s h=>h
    | cons a l ih=>exact fun s h=>ih _ (entP_sub d m f s a x h)
   exact this _ _ (List.mem_append_left _ h)
theorem foldP_sub(d:Ds)(m:Mm)(f:Nat)(x:Int):∀(l:List Int) (s:Sr),x∈s.order->x∈(l.foldl (qET d m f) s).order:=fun l=>by
 induction l with
 | nil=>exact fun s h=>h
 | cons a l ih=>exact fun s h=>ih _ (entP_sub d m f s a x h)
theorem qIz{α:Type}{p q:α->Bool}:∀{l:List α},(∀a∈l,q a=true->p a=true)->(l.filter q).length<=(l.filter p).length
 | [],_=>Nat.le_refl _
 | a::l,h=>by
  have ih:=qIz (l:=l) fun x hx=>h x (List.mem_cons_of_mem _ hx)
  have ha:=h a List.mem_cons_self
  rw[List.filter_cons,List.filter_cons]
  cases hq:q a with
  | true=>rw[ha hq];simpa using ih
  | false =>
   cases hp:p a with
   | true=>simp;omega
   | false=>simpa using ih
theorem filter_lt{α:Type}{p q:α->Bool}:∀{l:List α},(∀a∈l,q a=true->p a=true)->∀a∈l,p a=true->q a=false->(l.filter q).length<(l.filter p).length
 | [],_,a,ha,_,_=>by cases ha
 | b::l,h,a,ha,hp,hq=>by
  have h':∀x∈l,q x=true->p x=true:=fun x hx=>h x (List.mem_cons_of_mem _ hx)
  rw[List.filter_cons,List.filter_cons]
  rcases List.mem_cons.1 ha with rfl|hm
  ·rw[hp,hq]
   have:=qIz h'
   simp;omega
  ·have ih:=filter_lt h' a hm hp hq
   have hb:=h b List.mem_cons_self
   cases hqb:q b with
   | true=>rw[hb hqb];simpa using ih
   | false =>
    cases hpb:p b with
    | true=>simp;omega
    | false=>simpa using ih
section
variable{d:Ds}{m:Mm}{st:Sr}
theorem unS_le{a b:Sr}(h:∀x∈a.order,x∈b.order):unS m b<=unS m a:=by
 unfold unS
 refine qIz fun i _ hi=>?_
 simp only[Bool.not_eq_true',decide_eq_false_iff_not]at hi ⊢
 exact fun k=>hi (h _ k)
theorem unS_lt{n:Int}(hn:1<=n/\n<=(m.nodes.length:Int))(h:¬n∈st.order){a:Int}:unS m ⟨st.order++[n],a⟩<unS m st:=by
 unfold unS
 obtain⟨i,rfl⟩:∃i:Nat,n=(i:Int)+1:=⟨(n-1).toNat,by omega⟩
 refine filter_lt (fun j _ hj=>?_) i (List.mem_range.2 (by omega)) (by simpa using h) (by simp)
 simp only[Bool.not_eq_true',decide_eq_false_iff_not]at hj ⊢
 exact fun k=>hj (List.mem_append_left _ k)
theorem ref_in{xs:List Fld}{vs:List Int}(h:qAg d m xs vs=true){i:Nat}{f:Fld}{v:Int}(hf:xs[i]?=some f)(hvv:vs[i]?=some v)(hp:qDY f.ty=false)(h0:v≠0):1<=v/\v<=(m.nodes.length:Int):=by
 obtain⟨v',hv',hr⟩:=qFy h hf
 rw[hvv]at hv';cases hv'
 unfold qDY at hp
 simp only[Bool.or_eq_false_iff,decide_eq_false_iff_not]at hp
 unfold qAu at hr
 rw[if_neg hp.1,if_neg hp.2,decide_eq_true_eq]at hr
 rcases hr with h|⟨h1,h2,-⟩
 ·exact absurd h h0
 ·exact⟨h1,h2⟩
end
section
variable{d:Ds}{m c:Mm}{O:List Int}
structure Cl (d:Ds) (m:Mm) (a b:Sr):Prop where
 sub:∀x∈a.order,x∈b.order
 shut:∀x∈b.order,x∈a.order∨∀y∈qAO d m x,y∈b.order
 dup:a.order.Nodup->b.order.Nodup
 rng:(∀x∈a.order,1<=x/\x<=(m.nodes.length:Int))->∀x∈b.order,1<=x/\x<=(m.nodes.length:Int)
 cap:a.order.length+unS m a<=m.nodes.length->b.order.length+unS m b<=m.nodes.length
theorem Cl.trans{a b e:Sr}(h:Cl d m a b)(k:Cl d m b e):Cl d m a e:=⟨fun x hx=>k.sub x (h.sub x hx),fun x hx=>by
 rcases k.shut x hx with hx|hx
 ·rcases h.shut x hx with hx|hx
  ·exact .inl hx
  ·exact .inr fun y hy=>k.sub y (hx y hy)
 ·exact .inr hx,fun n=>k.dup (h.dup n),fun r=>k.rng (h.rng r),fun r=>k.cap (h.cap r)⟩
theorem tgt_mem{l:List Fld}{vs:List Int}{y:Int}:y∈tgt l vs↔∃(i:Nat) (f:Fld),l[i]?=some f/\vs[i]?=some y/\qDY f.ty=false/\y≠0:=by
 unfold tgt qES
 simp only[List.mem_map,List.mem_filter,Bool.and_eq_true,Bool.not_eq_true',decide_eq_true_eq,Prod.exists,exists_eq_right]
 constructor
 ·rintro ⟨f,h,h1,h2⟩
  obtain⟨i,hi⟩:=List.mem_iff_getElem?.1 h
  rw[List.getElem?_zip_eq_some]at hi
  exact⟨i,f,hi.1,hi.2,h1,h2⟩
 ·rintro ⟨i,f,h,h1,h2,h3⟩
  exact⟨f,List.mem_iff_getElem?.2 ⟨i,List.getElem?_zip_eq_some.2 ⟨h,h1⟩⟩,h2,h3⟩
theorem qJj(hv:qAx d m=true):(∀y∈tgt d.globals m.globals,1<=y/\y<=(m.nodes.length:Int))/\∀n,∀y∈qAO d m n,1<=y/\y<=(m.nodes.length:Int):=by
 obtain⟨-,-,-,p4,p5⟩:=qAi hv
 refine⟨fun y hy=>?_,fun n y hy=>?_⟩
 ·obtain⟨i,f,h1,h2,h3,h4⟩:=tgt_mem.1 hy
  exact ref_in p4 h1 h2 h3 h4
 ·unfold qAO at hy
  split at hy
  ·rename_i x hx
   obtain⟨i,f,h1,h2,h3,h4⟩:=tgt_mem.1 hy
   exact ref_in (p5 x (List.mem_of_getElem? hx)) h1 h2 h3 h4
  ·cases hy
theorem fold_cl{f:Nat}(H:∀st n,1<=n/\n<=(m.nodes.length:Int)->unS m st<f->Cl d m st (qET d m f st n)/\n∈(qET d m f st n).order) :
  ∀(l:List Int) (s:Sr),(∀y∈l,1<=y/\y<=(m.nodes.length:Int))->unS m s<f->Cl d m s (l.foldl (qET d m f) s)/\∀y∈l,y∈(l.foldl (qET d m f) s).order
 | [],s,_,_=>⟨⟨fun _ h=>h,fun _ h=>.inl h,fun h=>h,fun h=>h,fun h=>h⟩,fun _ h=>by cases h⟩
 | a::l,s,hl,hs=>by
  obtain⟨c1,c2⟩:=H s a (hl a List.mem_cons_self) hs
  obtain⟨e1,e2⟩:=fold_cl H l (qET d m f s a) (fun y hy=>hl y (List.mem_cons_of_mem _ hy)) (by have:=unS_le (m:=m) c1.sub;omega)
  refine⟨c1.trans e1,fun y hy=>?_⟩
  rcases List.mem_cons.1 hy with rfl|hy
  ·exact e1.sub _ c2
  ·exact e2 y hy
theorem ent_cl(hv:qAx d m=true):∀(f:Nat) (st:Sr) (n:Int),1<=n/\n<=(m.nodes.length:Int)->unS m st<f->Cl d m st (qET d m f st n)/\n∈(qET d m f st n).order
 | 0,_,_,_,h=>absurd h (Nat.not_lt_zero _)
 | f+1,st,n,hn,hf=>by
  rw[qET]
  split
  ·rename_i h;exact⟨⟨fun _ h=>h,fun _ h=>.inl h,fun h=>h,fun h=>h,fun h=>h⟩,h⟩
  ·rename_i hno
   have hlt:=unS_lt hn hno (a:=st.again)
   obtain⟨c1,c2⟩:=fold_cl (ent_cl hv f) (qAO d m n) ⟨st.order++[n],st.again⟩ (fun y hy=>(qJj hv).2 n y hy) (by omega)
   have hm:n∈(⟨st.order++[n],st.again⟩:Sr).order:=by simp
   refine⟨⟨fun x hx=>c1.sub x (List.mem_append_left _ hx),fun x hx=>?_,fun h=>c1.dup ?_,fun h=>c1.rng fun x hx=>?_,fun h=>c1.cap ?_⟩,c1.sub n hm⟩
   ·rcases c1.shut x hx with h|h
    ·rcases List.mem_append.1 h with h|h
     ·exact .inl h
     ·rw[List.mem_singleton.1 h];exact .inr c2
    ·exact .inr h
   ·show (st.order++[n]).Nodup
    rw[List.nodup_append]
    refine⟨h,by simp,fun a ha b hb e=>hno ?_⟩
    rw[<- List.mem_singleton.1 hb,<- e];exact ha
   ·rcases List.mem_append.1 hx with hx|hx
    ·exact h x hx
    ·rw[List.mem_singleton.1 hx];exact hn
   ·show (st.order++[n]).length+_<=_
    rw[List.length_append,List.length_singleton];omega
structure Rch (d:Ds) (m:Mm) (O:List Int):Prop where
 dup:O.Nodup
 rng:∀x∈O,1<=x/\x<=(m.nodes.length:Int)
 glob:∀y∈tgt d.globals m.globals,y∈O
 shut:∀x∈O,∀y∈qAO d m x,y∈O
 cap:O.length<=m.nodes.length
theorem unS_zero:unS m ⟨[],0⟩<=m.nodes.length:=by
 unfold unS
 have:=List.length_filter_le (fun i:Nat=>!decide (((i:Int)+1)∈(⟨[],0⟩:Sr).order)) (List.range m.nodes.length)
 rw[List.length_range]at this
 exact this
theorem qKd(hv:qAx d m=true):Rch d m (qHX d m).order:=by
 have hu:=unS_zero (m:=m)
 obtain⟨c1,c2⟩:=fold_cl (ent_cl hv (m.nodes.length+1)) (tgt d.globals m.globals) ⟨[],0⟩ (qJj hv).1 (by omega)
 refine⟨c1.dup List.nodup_nil,c1.rng (fun x hx=>by cases hx),c2,fun x hx=>?_,?_⟩
 ·rcases c1.shut x hx with h|h
  ·cases h
  ·exact h
 ·have:=c1.cap (by show 0+_<=_;omega)
  exact Nat.le_trans (Nat.le_add_right _ _) this
def posI(l:List Int)(x:Int):Int:=qIQ (fun y=>decide (y=x)) l
end
end Go.Proofs
namespace Go.Proofs
open Go Go.Sx
end Go.Proofs
namespace Go.Proofs
open Go Go.Sx
attribute [local irreducible] Go.Sx.Tri
section
variable{V0 V V1:Mem}{d:Ds}{m:Mm}{p ib:Nat}{st:Sr}{o:Sl}
def srow(d:Ds)(m:Mm)(o:Sl)(ib:Nat)(a:Int):List Value:=[Go.Sx.vS d.name,d.ts.v,d.gs.v,d.ps.v,d.ms.v,d.is.v,d.qs.v,d.bs.v,m.gs.v,m.ns.v,o.v,.map (some ib),.int .i64 a]
def kn(O:List Int)(n:Int):Option Int:=if n∈O then some (posI O n+1) else none
theorem pos_app{O:List Int}{n x:Int}(hx:x∈O):posI (O++[n]) x=posI O x:=by
 unfold posI qIQ
 rw[List.findIdx?_append]
 cases h:O.findIdx? (fun y=>decide (y=x)) with
 | none=>exact absurd (decide_eq_true rfl) (by rw[List.findIdx?_eq_none_iff.1 h x hx];decide)
 | some i=>rfl
theorem pos_new{O:List Int}{n:Int}(hn:¬n∈O):posI (O++[n]) n=(O.length:Int):=by
 unfold posI qIQ
 have h:O.findIdx? (fun y=>decide (y=n))=none:=List.findIdx?_eq_none_iff.2 fun x hx=>decide_eq_false (by rintro rfl;exact hn hx)
 rw[List.findIdx?_append,h]
 simp[List.findIdx?_cons]
theorem kn_new{O:List Int}{n:Int}(hn:¬n∈O)(x:Int):kn (O++[n]) x=if x=n then some ((O.length:Int)+1) else kn O x:=by
 unfold kn
 by_cases hx:x=n
 ·subst hx
  rw[if_pos (by simp),if_pos rfl,pos_new hn]
 ·rw[if_neg hx]
  by_cases hm:x∈O
  ·rw[if_pos (by simp[hm]),if_pos hm,pos_app hm]
  ·rw[if_neg (by simp[hm,hx]),if_neg hm]
structure SrAt (V0:Mem) (d:Ds) (m:Mm) (p ib:Nat) (V:Mem) (st:Sr) (o:Sl):Prop where
 at_:V p=some (.cells (srow d m o ib st.again).toArray 253 (0,0))
 own:Sx.Own V0 V 3 1 o (st.order.flatMap qAe)
 map:qEd (Value.int .i64) V ib fun n=>(kn st.order n).map (Value.int .i64)
 cap:st.order.length+unS m st<=m.nodes.length
 rng:∀x∈st.order,1<=x/\x<=(m.nodes.length:Int)
structure SrS (V0:Mem) (d:Ds) (m:Mm) (p ib:Nat):Prop where
 mem:qAx d m=true
 ds:Ds.Ok V0 d
 mm:Mm.Ok V0 m
 p0:V0 p=none
 i0:V0 ib=none
 pi:p≠ib
theorem SrAt.cell(h:SrAt V0 d m p ib V st o)(i n:Nat)(hi:i+n<=13):V.rowp (sa p) i n=some (((srow d m o ib st.again).drop i).take n):=qAd h.at_ i n hi
theorem kn_pos{O:List Int}{n:Int}(h:n∈O):∃j,kn O n=some j/\1<=j:=by
 unfold kn
 rw[if_pos h]
 refine⟨_,rfl,?_⟩
 unfold posI
 rcases qBh (fun y=>decide (y=n)) O with⟨-,-,h1⟩|⟨j,z,h1,-⟩
 ·rw[List.any_eq_false]at h1
  exact absurd (decide_eq_true rfl) (h1 n h)
 ·rw[h1];omega
def SrPost(V0:Mem)(d:Ds)(m:Mm)(p ib:Nat)(st:Sr):Ending->Mem->Prop:=fun e V'=>e=.returned (.tuple #[])/\∃o,SrAt V0 d m p ib V' st o
variable(V0 d m p ib) in
def EntC(N:Nat):Prop:=∀(st:Sr) (n:Int) (f:Nat) V o,SrAt V0 d m p ib V st o->1<=n/\n<=(m.nodes.length:Int)->unS m st<=N->unS m st<f ->
 Tri Tryz.prog 254 #[pv p,.int .i64 n] V (SrPost V0 d m p ib (qET d m f st n))
theorem lookC{N:Nat}(hE:EntC V0 d m p ib N){l s:Sl}{xs:List Fld}{vs:List Int}(hl:qAc V0 l 2 (xs.map Fld.row))(hs:qAc V0 s 1 (vs.map qAe))(hv:qAg d m xs vs=true){f:Nat}(h:SrAt V0 d m p ib V st o)(hN:unS m st<=N)(hf:unS m st<f) :
  Tri Tryz.prog 209 #[pv p,l.v,s.v] V (SrPost V0 d m p ib ((tgt xs vs).foldl (qET d m f) st)):=by
 refine Tri.mono (x209 (R:=SrPost V0 d m p ib ((tgt xs vs).foldl (qET d m f) st)) ?_) fun _ _ h=>h
 unfold w209
 have hlen:xs.length=vs.length:=(qAC.1 hv).1
 refine qIY xs.length (fun i V1=>∃o1,SrAt V0 d m p ib V1 ((tgtI xs vs i).foldl (qET d m f) st) o1) ⟨o,by rw[tgtI_zero];exact h⟩ ?_
 rintro i V1 J hi ⟨o1,h1⟩ hJ
 have hl1:=hl.sub h1.own.sub
 have hs1:=hs.sub h1.own.sub
 refine⟨fun hlt=>?_,fun hge=>?_⟩
 ·obtain⟨x,hxm,hx,-,hil,hp,hz,hrow⟩:=hl1.get hlt
  have n1:=hl1.n_eq
  have n2:=hs1.n_eq
  obtain⟨y,hym,hy,-,hjl,hpy,hzy,hrowy⟩:=hs1.get (i:=i) (by omega)
  have hu:unS m ((tgtI xs vs i).foldl (qET d m f) st)<=unS m st:=unS_le fun z hz=>foldP_sub d m f z _ _ hz
  have same:qES (x,y)=false->∃o2,SrAt V0 d m p ib V1 ((tgtI xs vs (i+1)).foldl (qET d m f) st) o2:=fun hr=>by
   rw[qHL hx hy,hr,if_neg (by decide),List.append_nil];exact⟨o1,h1⟩
  refine⟨hp,hz,hlt,_,_,hrow,c124.call ⟨_,rfl,fun h2=>⟨hl1.succ hlt,hJ hil _ (same ?_)⟩,fun h2=>⟨hpy,hzy,by omega,_,hrowy,fun h3=>⟨hl1.succ hlt,hJ hil _ (same ?_)⟩,fun h3=>⟨hpy,hzy,by omega,_,hrowy,?_⟩⟩⟩⟩
  ·unfold qES;rw[show qDY x.ty=true from h2];rfl
  ·have h3:y=0:=h3
   unfold qES;rw[h3];simp
  ·have hpl:qDY x.ty=false:=(Bool.not_eq_true _).mp h2
   have h3:¬y=0:=h3
   have hr:qES (x,y)=true:=by unfold qES;rw[hpl,decide_eq_true h3];rfl
   refine Tri.mono (hE _ y f V1 o1 h1 (ref_in hv hx hy hpl h3) (by omega) (by omega)) ?_
   rintro _ V2 ⟨rfl,o2,h4⟩
   refine⟨rfl,hl1.succ hlt,hJ hil _ ⟨o2,?_⟩⟩
   rw[qHL hx hy,hr,if_pos rfl,List.foldl_append,List.foldl_cons,List.foldl_nil]
   exact h4
 ·have hd:=(hl1.done hge).2
  rw[tgtI_all hd]at h1
  exact⟨rfl,o1,h1⟩
theorem enterC(S:SrS V0 d m p ib)(N:Nat)(ih:∀N',N'<N->EntC V0 d m p ib N'):EntC V0 d m p ib N:=by
 intro st n f V o h hn hN hf
 obtain⟨f,rfl⟩:∃f',f=f'+1:=⟨f-1,by omega⟩
 refine Tri.mono (x254 (R:=SrPost V0 d m p ib (qET d m (f+1) st n)) ?_) fun _ _ h=>h
 unfold w254
 have hg:=h.map
 refine⟨nn,nn,_,h.cell 11 1 (by decide),qBi.key1 (k:=n) (qEa Tryz.underlying3) Tryz.underlying132 qEf hg ?_⟩
 by_cases hin:n∈st.order
 ·obtain⟨j,hj,hj1⟩:=kn_pos hin
  rw[hj]
  have e:qET d m (f+1) st n=⟨st.order,if st.again=0 then n else st.again⟩:=by unfold qET;rw[if_pos hin]
  rw[e]
  refine⟨j,rfl,fun h0=>?_,fun _=>⟨nn,nn,_,h.cell 12 1 (by decide),fun h0=>⟨nn,nn,?_⟩,fun h0=>?_⟩⟩
  ·have h0:j=0:=h0
   omega
  ·have h0:st.again=0:=h0
   rw[if_pos h0]
   refine StT.at2 (off:=12) h.at_ (by simp[srow]) ⟨rfl,o,?_,h.own.put (h.own.apart fun cur hc=>?_) S.p0 _,hg.set S.pi.symm,h.cap,h.rng⟩
   ·rw[Mem.set_same];rfl
   ·rw[h.at_]at hc;cases hc
  ·have h0:¬st.again=0:=h0
   rw[if_neg h0]
   exact⟨rfl,o,h⟩
 ·have hno:kn st.order n=none:=by unfold kn;rw[if_neg hin]
  rw[hno]
  have hcap:=h.cap
  have hlt:=unS_lt (st:=st) hn hin (a:=st.again)
  refine⟨0,rfl,fun _=>⟨nn,nn,o,h.cell 10 1 (by decide),fun tb htb=>?_⟩,fun h0=>absurd rfl h0⟩
  have pne:∀cur,V p≠some (.cells cur 3 (0,0)):=fun cur hc=>by rw[h.at_]at hc;cases hc
  have ine:∀cur,V ib≠some (.cells cur 3 (0,0)):=fun cur hc=>by
   obtain⟨e1,c1,k1,-⟩:=hg.at_
   rw[k1]at hc;cases hc
  have m4:=(qAi S.mem).2.1
  have hown2:=(h.own.but).new htb (.cells #[.int .i64 n] 3 (0,0))
  refine qFs (s:=o) (u:=⟨some ⟨tb,0,none⟩,1,1⟩) (xs:=st.order) (ys:=[n]) rfl rfl hown2 (one_int mss) (by simp;omega) fun o2 V2 ho2=>⟨o2,rfl,nn,nn,?_⟩
  have hsub:=ho2.sub
  have hp2:V2 p=some (.cells (srow d m o ib st.again).toArray 253 (0,0)):=hsub _ _ (Mem.but_at h.at_ (h.own.apart pne))
  have hg2:qEd (Value.int .i64) V2 ib fun n=>(kn st.order n).map (Value.int .i64):=by
   obtain⟨e1,c1,k1,k2⟩:=hg.at_
   exact⟨e1,c1,hsub _ _ (Mem.but_at k1 (h.own.apart ine)),k2⟩
  have ho3:Sx.Own V0 V2 3 1 o2 ((st.order++[n]).flatMap qAe):=ho2.narrow h.own.sub_but
  refine StT.at2 (off:=10) hp2 (by simp[srow]) ?_
  obtain⟨V3,hV3⟩:∃V3,V3=V2.set p (.cells (srow d m o2 ib st.again).toArray 253 (0,0)):=⟨_,rfl⟩
  have hgoal:V2.set p (.cells ((srow d m o ib st.again).toArray.toList.take 10++[uL o2]++(srow d m o ib st.again).toArray.toList.drop (10+[uL o2].length)).toArray 253 (0,0))=V3:=hV3.symm
  have hp3:V3 p=some (.cells (srow d m o2 ib st.again).toArray 253 (0,0)):=by rw[hV3,Mem.set_same]
  have hg3:qEd (Value.int .i64) V3 ib fun n=>(kn st.order n).map (Value.int .i64):=by rw[hV3];exact hg2.set S.pi.symm
  have pne2:∀cur,V2 p≠some (.cells cur 3 (0,0)):=fun cur hc=>by rw[hp2]at hc;cases hc
  have ho4:Sx.Own V0 V3 3 1 o2 ((st.order++[n]).flatMap qAe):=by rw[hV3];exact ho3.put (ho3.apart pne2) S.p0 _
  show ¬_/\_
  rw[hgoal]
  refine⟨nn,nn,_,qAd hp3 11 1 (by simp[srow]),nn,nn,o2,qAd hp3 10 1 (by simp[srow]),qCv.key (k:=n) (qEa Tryz.underlying3) Tryz.underlying132 hg3 fun ob hob=>?_⟩
  have hn2:=ho4.n_eq (fun _=>rfl) (by decide)
  rw[List.length_append,List.length_singleton]at hn2
  have h5:SrAt V0 d m p ib (V3.set ib ob) ⟨st.order++[n],st.again⟩ o2:=by
   refine⟨by rw[Mem.set_ne S.pi];exact hp3,ho4.put (ho4.apart fun cur hc=>?_) S.i0 _,hob.congr fun x=>?_,?_,fun x hx=>?_⟩
   ·obtain⟨e1,c1,k1,-⟩:=hg3.at_
    rw[k1]at hc;cases hc
   ·rw[kn_new hin,show ((st.order.length:Int)+1)=(o2.n:Int) by omega]
    by_cases hx:x=n <;> simp[hx]
   ·show (st.order++[n]).length+_<=_
    rw[List.length_append,List.length_singleton];omega
   ·rcases List.mem_append.1 hx with hx|hx
    ·exact h.rng x hx
    ·rw[List.mem_singleton.1 hx];exact hn
  obtain⟨q,rfl⟩:∃q:Nat,n=(q:Int)+1:=⟨(n-1).toNat,by omega⟩
  have hmm:=S.mm.sub h5.own.sub
  have hdd:=S.ds.sub h5.own.sub
  have hnn:=hmm.nodes.n_eq
  obtain⟨x,hxm,hx,-,hl2,hpx,hzx,hrowx⟩:=hmm.nodes.get (i:=q) (by omega)
  have hty:=(qAi S.mem).2.2.1 x hxm
  obtain⟨c1,c2⟩:=of_decide_eq_true hty
  obtain⟨j,hj⟩:∃j:Nat,x.ty=(j:Int):=⟨_,(Int.toNat_of_nonneg c1).symm⟩
  have htn:=hdd.types.n_eq
  obtain⟨t,htm,ht,-,hl3,hpt3,hzt,hrowt⟩:=hdd.types.get (i:=j) (by omega)
  have hI:IR ((q:Int)):=⟨by omega,by have:=(hmm.nodes.succ (i:=q) (by omega)).2;omega⟩
  rw[show ((q:Int)+1-1)=(q:Int) by omega]
  refine⟨nn,nn,pnn,m.ns,h5.cell 9 1 (by decide),hI,hpx,hzx,by omega,_,_,hrowx,nn,nn,pnn,d.ts,h5.cell 1 1 (by decide),?_⟩
  rw[hj]
  have hfo:=qBr ht hj
  have hvals:=(qAi S.mem).2.2.2.2 x hxm
  rw[hfo]at hvals
  refine⟨hpt3,hzt,by omega,qAh hpt3,_,_,hrowt,Tri.mono (lookC (ih (unS m ⟨st.order++[(q:Int)+1],st.again⟩) (by omega)) (S.ds.typesOk t htm).fields (S.mm.nodesOk x hxm).rows hvals (f:=f) h5 (Nat.le_refl _) (by omega)) ?_⟩
  rintro _ V5 ⟨rfl,o5,h6⟩
  refine⟨rfl,rfl,o5,?_⟩
  have e:qET d m (f+1) st ((q:Int)+1)=(tgt t.fields x.f).foldl (qET d m f) ⟨st.order++[(q:Int)+1],st.again⟩:=by
   rw[qET,if_neg hin]
   unfold qAO
   rw[show ((q:Int)+1-1).toNat=q by omega,hx]
   show (tgt (qAq d x.ty) x.f).foldl _ _=_
   rw[hfo]
  rw[e];exact h6
theorem entAll(S:SrS V0 d m p ib):∀N,EntC V0 d m p ib N:=fun N=>Nat.strongRecOn N fun N ih=>enterC S N ih
end
section
variable{V:Mem}{d:Ds}{m:Mm}
theorem c176(hmv:qAx d m=true)(hd:Ds.Ok V d)(hm:Mm.Ok V m):Tri Tryz.prog 176 #[d.v,m.v] V fun e V'=>∃p ib o,e=.returned (pv p)/\SrAt V d m p ib V' (qHX d m) o:=by
 refine x176 ?_
 unfold w176
 refine GenK.makeMap fun ib hib=>⟨some ib,rfl,fun p hp=>?_⟩
 have n1:p≠ib:=fun e=>by rw[e,Mem.set_same]at hp;cases hp
 have hp0:V p=none:=by rw[Mem.set_ne n1]at hp;exact hp
 have s1:=Mem.sub_new hib (.map #[] 0)
 have s2:=Mem.sub_new hp (.cells (srow d m ⟨none,0,0⟩ ib 0).toArray 253 (0,0))
 have S:SrS V d m p ib:=⟨hmv,hd,hm,hp0,hib,n1⟩
 have hu:unS m ⟨[],0⟩<=m.nodes.length:=unS_zero
 have h0:SrAt V d m p ib ((V.set ib (.map #[] 0)).set p (.cells (srow d m ⟨none,0,0⟩ ib 0).toArray 253 (0,0))) ⟨[],0⟩ ⟨none,0,0⟩ :=
  ⟨Mem.set_same _ _ _,Own.nil (s1.trans s2) _ _,(((qEd.made V ib).sub s2)).congr fun _=>rfl,by show 0+unS m ⟨[],0⟩<=_;omega,fun x h=>by simp at h⟩
 refine Tri.mono (lookC (entAll S m.nodes.length) hd.globals hm.globals (qAi hmv).2.2.2.1 (f:=m.nodes.length+1) h0 hu (by omega)) ?_
 rintro _ V2 ⟨rfl,o,h⟩
 exact⟨rfl,p,ib,o,rfl,h⟩
end
section
variable{V:Mem}{d:Ds}{m:Mm}
theorem Own.growS{V0 V V':Mem}{e:TypeId}{sz:Nat}{s:Sl}{vs:List Value}(h:Sx.Own V0 V e sz s vs)(hs:V.sub V'):Sx.Own V0 V' e sz s vs:=Own.moveB h (h.sub.trans hs) fun _ _ _ hg=>hs _ _ hg
theorem c13{s t:Sl}{xs ys:List Int}(h:qAc V s 1 (xs.map qAe))(k:qAc V t 1 (ys.map qAe)):PP 13 [.slice s.p s.n s.c,.slice t.p t.n t.c] V (.bool (decide (xs=ys))):=by
 refine x13 ?_
 unfold w13
 have n1:=h.n_eq
 have n2:=k.n_eq
 refine⟨fun hl=>?_,fun hl=>?_⟩
 ·refine qBp (mk:=.bool) (b0:=false) xs.length (fun i V1=>V=V1/\xs.take i=ys.take i) ⟨rfl,rfl⟩ ?_
  rintro i b V1 J hi ⟨rfl,he⟩ hJ
  refine⟨fun hlt=>?_,fun hge=>?_⟩
  ·obtain⟨x,hxm,hx,-,hil,hp,hz,hrow⟩:=h.get hlt
   obtain⟨y,hym,hy,-,hjl,hp2,hz2,hrow2⟩:=k.get (i:=i) (by omega)
   refine⟨hp,hz,hlt,_,hrow,hp2,hz2,by omega,_,hrow2,fun hE=>⟨h.succ hlt,hJ hil _ _ ⟨rfl,take_eq he hx hy hE⟩⟩,fun hE=>?_⟩
   rw[decide_eq_false fun e=>?_]
   ·exact⟨rfl,rfl⟩
   ·rw[e,hy]at hx;cases hx;exact hE rfl
  ·have hd:=(h.done hge).2
   rw[List.take_of_length_le hd,List.take_of_length_le (by omega)]at he
   rw[decide_eq_true he];exact⟨rfl,rfl⟩
 ·rw[decide_eq_false fun e=>hl (by rw[n1,n2,e])];exact⟨rfl,rfl⟩
end
theorem plain_eq{t:ByteArray}(h:t=qBd∨t=qAw):qDY t=true:=by
 unfold qDY
 rcases h with rfl|rfl <;> simp
section
variable{V:Mem}{d:Ds}{m:Mm}
theorem lens_of(h:qAF d=true):d.globals.length<=8/\∀t∈d.types,t.fields.length<=12:=by
 grind [qAF,qEv,tyB]
theorem values_len{l:List Fld}{vs:List Int}(h:qAg d m l vs=true):l.length=vs.length:=by
 grind [qAg]
end
section
variable{V:Mem}{d:Ds}{m:Mm}
theorem c132[Tab V](hmv:qAx d m=true)(hd:Ds.Ok V d)(hm:Mm.Ok V m):Tri Tryz.prog 132 #[d.v,m.v] V fun e V'=>∃o:Sl,e=.returned (.tuple #[.slice o.p o.n o.c,.int .i64 0])/\Sx.Own V V' 3 1 o ((qHX d m).order.flatMap qAe):=by
 refine x132 ?_
 unfold w132
 refine(c44 hd hm).call ⟨_,rfl,fun _=>Tri.mono (c176 hmv hd hm) ?_,fun h=>absurd hmv h⟩
 rintro _ V2 ⟨p,ib,o,rfl,h⟩
 exact⟨_,rfl,nn,nn,o,h.cell 10 1 (by decide),o,rfl,h.own⟩
end
theorem keys_len:∀(es:List MapEntry) (c:List Int),(∀e∈es,∃a,e.key=Value.int .i64 a)->es.Pairwise (fun e f=>e.key≠f.key)->c.Nodup->(∀a,(qEc es (.int .i64 a)).isSome=decide (a∈c))->es.length=c.length:=fun es c hk hd hc hl=>by
 have h1:∃ks:List Int,ks.map (Value.int .i64)=es.map (·.key):=by
  clear hd hl
  induction es with
  | nil=>exact⟨[],rfl⟩
  | cons e es ih =>
   obtain⟨ks,h⟩:=ih fun x hx=>hk x (by simp[hx])
   obtain⟨a,ha⟩:=hk e (by simp)
   exact⟨a::ks,by simp_all⟩
 obtain⟨ks,has⟩:=h1
 have hnd:ks.Nodup:=by
  grind [pair_keys]
 have hmem:∀a,a∈ks↔a∈c:=fun a=>by
  have h3:=hl a
  have h4:a∈ks↔∃e∈es,e.key=Value.int .i64 a:=by
   have:Value.int .i64 a∈ks.map (Value.int .i64)↔Value.int .i64 a∈es.map (·.key):=by rw[has]
   grind
  grind [qEc]
 have e1:es.length=ks.length:=by
  have:=congrArg List.length has
  grind
 have a1:=nodup_le ks c hnd fun x hx=>(hmem x).1 hx
 have a2:=nodup_le c ks hc fun x hx=>(hmem x).2 hx
 omega
theorem GenK.lenMap{P:Program}{V:Mem}{b:Nat}{f:Int->Option Value}{c:List Int}{t kt et ty:TypeId}(ht:P.underlying t=some (.map kt et))(hm:qEd (Value.int .i64) V b f)(hc:c.Nodup)(hd:∀a,(f a).isSome=decide (a∈c)){x:Operand}{vals:Operand->Value}(hx:vals x=.map (some b)){q:Value->Mem->Prop}(hq:q (.int .i64 c.length) V) :
  GenK P (.call { callee:=.builtin .len,args:=#[x],argTypes:=#[t] }) ty vals V q:=by
 intro w hw
 obtain⟨es,cl,h1,h2,h3,h4⟩:=hm.at_
 have hlen:=keys_len es.toList c h2 h3 hc fun a=>by grind
 refine⟨_,w,V,?_,Frm.refl hw,hq⟩
 unfold execOp
 simp only[resolve,invoke,builtin,Sem.run_bind,Sem.run_pure,Result.andThen_ok,List.map_toArray,List.map_cons,List.map_nil,hx,Builtin.len_]
 simp only[List.getElem?_toArray,List.getElem?_cons_zero,Sem.run_bind,run_underlying ht,Result.andThen_ok,MapKept.run_getObj_map (hw _ _ h1),Sem.run_pure]
 grind [goInt]
section
variable{V0 V:Mem}{p k n:Nat}{c:List Int}{b:Int}
theorem c63(h:CaAt p k c n V0 V)(hk:1<=k/\k<=1000)(hb:0<=b/\b<=1048576)(hn:n<2147483648):Tri Tryz.prog 63 #[pv p,.int .i64 b] V fun e V'=>e=.returned (.tuple #[.bool (decide (b∈c)),.int .i64 0])/\CaAt p k (tch k c b) (n+if b∈c then 0 else 1) V0 V':=by
 obtain⟨mb,S,B,N,P,L,f,h,hI⟩:=h
 obtain⟨R,hR⟩:∃R:Ending->Mem->Prop,R=fun e V'=>e=.returned (.tuple #[.bool (decide (b∈c)),.int .i64 0])/\CaAt p k (tch k c b) (n+if b∈c then 0 else 1) V0 V':=⟨_,rfl⟩
 rw[<- hR]
 refine x63 ?_
 unfold w63
 refine⟨fun h=>absurd h nn,fun _=>⟨fun h=>absurd hb.1 (Int.not_le.2 h),fun _=>⟨fun h=>absurd hb.2 (Int.not_le.2 h),fun _=>⟨nn,nn,_,h.cell 2 1 (by decide),?_⟩⟩⟩⟩
 refine qBi.key2 (k:=b) (qEa Tryz.underlying3) Tryz.underlying132 qEf h.mp ?_
 have hNl:=hI.nl
 have hPl:=hI.pl
 have hBl:=hI.bl
 by_cases hbc:b∈c
 ·-- a hit
  obtain⟨i,s,hci,hLi,hfb⟩:=hI.hit hbc
  obtain⟨pr,nx,k1,k2,k3,k4,k5⟩:=hI.around hLi
  have hsr:=hI.rng s (List.mem_of_getElem? hLi)
  rw[hfb]
  refine⟨s,true,rfl,fun _=>?_,fun h=>absurd rfl h⟩
  refine Tri.mono (c99 h k1 k2 (by omega) (by omega)) ?_
  rintro _ V1 ⟨rfl,h1⟩
  refine⟨rfl,fun _=>?_,fun h=>absurd rfl h⟩
  obtain⟨q,hq,hql⟩:∃q:Nat,(N.set pr nx)[0]?=some (q:Int)/\q<B.length:=by
   by_cases e:pr=0
   ·grind
   ·obtain⟨q,h1,h2⟩:=hI.head
    grind
  refine Tri.mono (c100 h1 hq (by simp_all) (by simp_all) (by simp_all) (by omega)) ?_
  rintro _ V2 ⟨rfl,h2⟩
  refine⟨rfl,?_⟩
  rw[hR,decide_eq_true hbc,if_pos hbc]
  refine⟨rfl,mb,S,B,_,_,s::(L.take i++L.drop (i+1)),f,h2,?_⟩
  unfold tch
  rw[if_pos hbc]
  exact hI.touch hci hLi k5 hq
 ·-- a miss
  have hfb:=hI.no b hbc
  rw[hfb]
  refine⟨0,false,rfl,?_⟩
  refine⟨fun h=>absurd h (by decide),fun _=>⟨nn,nn,_,h.cell 2 1 (by decide),nn,nn,_,h.cell 0 1 (by decide),?_⟩⟩
  refine GenK.lenMap Tryz.underlying132 h.mp hI.cn (fun a=>by rw[Option.isSome_map];exact hI.dec) rfl ?_
  have hcap:=hI.cap
  have hR':R=fun e V'=>e=.returned (.tuple #[.bool false,.int .i64 0])/\CaAt p k (b::c.take (k-1)) (n+1) V0 V':=by
   grind [tch]
  refine⟨_,rfl,qAI h.at_ 0 0 1 (by simp[crow]),nn,nn,fun hlt=>?_,fun hge=>?_⟩
  ·have hlk:c.length<k:=by omega
   obtain⟨q,hq,hql⟩:=hI.head
   have hSn:=(h.bo.rows (row:=qAe) (xs:=B) (fun _=>rfl) (by decide)).n_eq
   have hB1:B.length<=1001:=by have:=hI.cl;omega
   have one:∀{U:Mem} {t:Nat} {x:Int},U t=none->qAc (U.set t (.cells #[.int .i64 x] 3 (0,0))) ⟨some ⟨t,0,none⟩,1,1⟩ 1 ([x].map qAe):=fun {U t x} ht=>qAc.cells (xs:=[x]) (row:=qAe) mss rfl (fun _=>rfl) rfl (by simp)
   refine⟨nn,nn,_,h.cell 3 1 (by decide),nn,nn,_,h.cell 3 1 (by decide),nn,nn,_,h.cell 4 1 (by decide),nn,nn,_,h.cell 5 1 (by decide),?_⟩
   rw[show (S.b.n:Int)=((B.length:Nat):Int) by rw[hSn]]
   repeat' apply And.intro
   all_goals first
    | exact nn
    | exact qAI h.at_ 3 0 1 (by simp[crow])
    | exact qAI h.at_ 4 0 1 (by simp[crow])
    | exact qAI h.at_ 5 0 1 (by simp[crow])
    | skip
   all_goals
    intro b1 hb1
    refine qFs (s:=S.b) (xs:=B) (ys:=[b]) rfl rfl (h.bo.but.new hb1 _) (one hb1) (by simp;omega) fun s1 V3 o1=>⟨s1,rfl,?_⟩
    have h3:=h.pushB o1
    repeat' apply And.intro
    all_goals first
     | exact nn
     | exact qAI h3.at_ 4 0 1 (by simp[crow])
     | exact qAI h3.at_ 5 0 1 (by simp[crow])
     | skip
    all_goals
     intro b2 hb2
     refine qFs (s:=S.n) (xs:=N) (ys:=[0]) rfl rfl (h3.no.but.new hb2 _) (one hb2) (by simp;omega) fun s2 V5 o2=>⟨s2,rfl,?_⟩
     have h5:=h3.pushN o2
     repeat' apply And.intro
     all_goals first
      | exact nn
      | exact qAI h5.at_ 5 0 1 (by simp[crow])
      | skip
     intro b3 hb3
     refine qFs (s:=S.p) (xs:=P) (ys:=[0]) rfl rfl (h5.po.but.new hb3 _) (one hb3) (by simp;omega) fun s3 V7 o3=>⟨s3,rfl,?_⟩
     have h7:=h5.pushP o3
     refine⟨nn,nn,StT.at2 (off:=3) h7.at_ (by simp[crow]) ?_⟩
     have h8:=h7.fields ⟨s1,S.n,S.p⟩
     refine⟨nn,nn,StT.at2 (off:=4) h8.at_ (by simp[crow]) ?_⟩
     have h9:=h8.fields ⟨s1,s2,S.p⟩
     refine⟨nn,nn,StT.at2 (off:=5) h9.at_ (by simp[crow]) ⟨fun h=>absurd h (by decide),fun _=>?_⟩⟩
     have h10:=h9.fields ⟨s1,s2,s3⟩
     refine⟨nn,nn,_,h10.cell 1 1 (by decide),⟨by omega,by omega⟩,nn,nn,StT.at2 (off:=1) h10.at_ (by simp[crow]) ?_⟩
     have h11:=h10.put ((n:Int)+1)
     refine⟨nn,nn,_,h11.cell 2 1 (by decide),qCv.key (k:=b) (qEa Tryz.underlying3) Tryz.underlying132 h11.mp fun om hom=>?_⟩
     have h12:=h11.map (g:=fun x=>if x=b then some ((B.length:Nat):Int) else f x) (hom.congr fun x=>by by_cases e:x=b <;> simp[e])
     refine Tri.mono (c100 h12 (s:=B.length) (q:=q) (by rw[List.getElem?_append_left (List.getElem?_eq_some_iff.1 hq).1];exact hq) (by rw[List.length_append,List.length_singleton];omega) (by rw[List.length_append,List.length_singleton];omega) (by rw[List.length_append,List.length_singleton];omega) (by omega)) ?_
     rintro _ V13 ⟨rfl,h13⟩
     refine⟨rfl,?_⟩
     rw[hR']
     refine⟨rfl,mb,⟨s1,s2,s3⟩,B++[b],_,_,B.length::L,_,h13,?_⟩
     rw[List.take_of_length_le (by omega)]
     exact hI.room hbc hlk (by rw[List.getElem?_append_left (List.getElem?_eq_some_iff.1 hq).1];exact hq)
  ·have hlk:c.length=k:=by omega
   obtain⟨s,pr,nx,o,k1,k2,k3,k4,k5,k6,k7,k8,k9⟩:=hI.full hbc hk.1 hlk
   obtain⟨p1,p2,p3,p4⟩:=qBV (h.po.rows (fun _=>rfl) (by decide)) k1
   refine⟨nn,nn,_,h.cell 5 1 (by decide),p1,p2,p3,_,p4,Tri.mono (c99 h k5 k6 (by omega) (by omega)) ?_⟩
   rintro _ V2 ⟨rfl,h2⟩
   obtain⟨b1,b2,b3,b4⟩:=qBV (h2.bo.rows (fun _=>rfl) (by decide)) k4
   refine⟨rfl,nn,nn,_,h2.cell 2 1 (by decide),nn,nn,_,h2.cell 3 1 (by decide),b1,b2,b3,_,b4,GenK.delete (k:=o) (qEa Tryz.underlying3) Tryz.underlying132 h2.mp rfl rfl fun om hom=>?_⟩
   have h3:=h2.map (g:=fun x=>if x=o then none else f x) (hom.congr fun x=>by grind)
   refine⟨rfl,nn,nn,_,h3.cell 3 1 (by decide),b1,b2,b3,h3.setB k3 fun V4 h4=>⟨fun h=>absurd h (by decide),fun _=>?_⟩⟩
   refine⟨nn,nn,_,h4.cell 1 1 (by decide),⟨by omega,by omega⟩,nn,nn,StT.at2 (off:=1) h4.at_ (by simp[crow]) ?_⟩
   have h5:=h4.put ((n:Int)+1)
   refine⟨nn,nn,_,h5.cell 2 1 (by decide),qCv.key (k:=b) (qEa Tryz.underlying3) Tryz.underlying132 h5.mp fun om2 hom2=>?_⟩
   have h6:=h5.map (g:=fun x=>if x=b then some (s:Int) else if x=o then none else f x) (hom2.congr fun x=>by grind)
   obtain⟨q,hq,hql⟩:∃q:Nat,(N.set pr nx)[0]?=some (q:Int)/\q<B.length:=by
    by_cases e:pr=0
    ·grind
    ·obtain⟨q,h1,h2⟩:=hI.head
     grind
   refine Tri.mono (c100 h6 hq (by simp_all) (by simp_all) (by simp_all) (by omega)) ?_
   rintro _ V7 ⟨rfl,h7⟩
   refine⟨rfl,?_⟩
   rw[hR']
   exact⟨rfl,mb,S,_,_,_,s::L.take (k-1),_,h7,k9 q hq⟩
end
end Go.Proofs
namespace Go.Proofs
def lastS(a:Int×Nat)(x:Int):Int×Nat:=if a.1<x then (x,1) else if x=a.1 then (a.1,a.2+1) else a
def qDx(l:List Int):Int×Nat:=l.foldl lastS (-1,0)
theorem lastN_snoc(l:List Int)(x:Int):qDx (l++[x])=lastS (qDx l) x:=by grind [qDx]
theorem qJV{p:List Int->Prop}(h0:p [])(h:∀l x,p l->p (l++[x]))(l:List Int):p l:=by
 have:∀n,∀l:List Int,l.length=n->p l:=by
  intro n
  induction n with
  | zero=>simp_all
  | succ n ih =>
   intro l hl
   have hne:l≠[]:=by grind
   rw[<- List.dropLast_concat_getLast hne]
   simp_all
 grind
theorem qCE(l:List Int):(∀x∈l,x<=(qDx l).1)/\-1<=(qDx l).1/\((qDx l).1=-1∨(qDx l).1∈l)/\((∀x∈l,0<=x)->(qDx l).2=l.count (qDx l).1):=by
 induction l using qJV with
 | h0=>exact⟨by simp,by decide,.inl rfl,fun _=>rfl⟩
 | h l x ih =>
  obtain⟨h1,h2,h3,h4⟩:=ih
  rw[lastN_snoc]
  unfold lastS
  grind
def qCa(l:List Int)(size:Int):Int:=if (qDx l).1<0∨((qDx l).2:Int)=size then (qDx l).1+1 else (qDx l).1
structure Plc (l:List Int) (size:Int):Prop where
 rng:∀b∈l,0<=b/\b<4096
 cnt:∀b∈l,(l.count b:Int)<=size
theorem Plc.nil{size:Int}:Plc [] size:=⟨by simp,by simp⟩
theorem Plc.snoc{l:List Int}{size b:Int}(h:Plc l size)(h1:0<=b/\b<4096)(h2:((l++[b]).count b:Int)<=size):Plc (l++[b]) size:=by
 refine⟨fun x hx=>?_,fun x hx=>?_⟩
 ·rcases List.mem_append.1 hx with hx|hx
  ·exact h.rng x hx
  simp_all
 ·by_cases e:x=b
  ·rw[e];exact h2
  ·rcases List.mem_append.1 hx with hx|hx
   ·have:=h.cnt x hx
    grind
   simp_all
structure Pl0 (l:List Int) (size:Int):Prop where
 lo:∀b∈l,0<=b
 cnt:∀b∈l,(l.count b:Int)<=size
theorem Plc.pl0{l:List Int}{size:Int}(h:Plc l size):Pl0 l size:=⟨fun b hb=>(h.rng b hb).1,h.cnt⟩
theorem furth_eq{l:List Int}{size M:Int}{n:Nat}(h:Pl0 l size)(hM:M∈l)(hmax:∀x∈l,x<=M)(hn:n=l.count M):qCa l size=if (n:Int)<size then M else M+1:=by
 obtain⟨h1,h2,h3,h4⟩:=qCE l
 have h0:=h.lo M hM
 have e:(qDx l).1=M:=by
  grind
 have e2:=h4 h.lo
 rw[e,<- hn]at e2
 have hc:=h.cnt M hM
 grind [qCa]
theorem qKA(l:List Int)(size:Int):0<=qCa l size:=by
 obtain⟨h1,h2,h3,h4⟩:=qCE l
 grind [qCa]
theorem Pl0.snoc{l:List Int}{size b:Int}(h:Pl0 l size)(h1:0<=b)(h2:((l++[b]).count b:Int)<=size):Pl0 (l++[b]) size:=by
 refine⟨fun x hx=>?_,fun x hx=>?_⟩
 ·rcases List.mem_append.1 hx with hx|hx
  ·exact h.lo x hx
  simp_all
 ·by_cases e:x=b
  ·rw[e];exact h2
  ·rcases List.mem_append.1 hx with hx|hx
   ·have:=h.cnt x hx
    grind
   simp_all
theorem furth_pl0{l:List Int}{size:Int}(h:Pl0 l size)(hs:1<=size):Pl0 (l++[qCa l size]) size:=by
 obtain⟨h1,h2,h3,h4⟩:=qCE l
 have h4:=h4 h.lo
 refine h.snoc (qKA l size) ?_
 rw[List.count_append,show [qCa l size].count (qCa l size)=1 by simp]
 unfold qCa
 by_cases c:(qDx l).1<0∨((qDx l).2:Int)=size
 ·rw[if_pos c,List.count_eq_zero_of_not_mem fun hx=>by grind];omega
 ·rw[if_neg c,not_or]at *
  have hm:=h3.resolve_left (by omega)
  have:=h.cnt _ hm
  omega
def Low(l:List Int):Prop:=∀b∈l,b<(l.length:Int)
theorem furth_ok{l:List Int}{size:Int}(h:Plc l size)(hl:Low l)(hs:1<=size)(hn:l.length<4096):Plc (l++[qCa l size]) size/\Low (l++[qCa l size]):=by
 obtain⟨h1,h2,h3,h4⟩:=qCE l
 have h4:=h4 fun x hx=>(h.rng x hx).1
 have hlo:=qKA l size
 have hlen:qCa l size<(l.length:Int)+1:=by
  unfold qCa
  rcases h3 with h3|h3
  ·split <;> omega
  ·have:=hl _ h3
   split <;> omega
 refine⟨h.snoc ⟨hlo,by omega⟩ ?_,fun b hb=>?_⟩
 ·rw[List.count_append,show [qCa l size].count (qCa l size)=1 by simp]
  unfold qCa
  by_cases c:(qDx l).1<0∨((qDx l).2:Int)=size
  ·rw[if_pos c,List.count_eq_zero_of_not_mem fun hx=>by grind];omega
  ·rw[if_neg c,not_or]at *
   have hm:=h3.resolve_left (by omega)
   have:=h.cnt _ hm
   omega
 ·rw[List.length_append,List.length_singleton]
  rcases List.mem_append.1 hb with hb|hb
  ·have:=hl b hb;omega
  simp_all
theorem furth_own(n:Nat):qCa ((List.range n).map fun i:Nat=>(i:Int)) 1=n:=by
 cases n with
 | zero=>rfl
 | succ n =>
  obtain⟨h1,h2,h3,h4⟩:=qCE ((List.range (n+1)).map fun i:Nat=>(i:Int))
  have h4:=h4 fun x hx=>by grind
  have hm:(n:Int)∈(List.range (n+1)).map fun i:Nat=>(i:Int):=List.mem_map.2 ⟨n,by simp,rfl⟩
  have e:(qDx ((List.range (n+1)).map fun i:Nat=>(i:Int))).1=n:=by
   grind
  have hnd:(List.map (fun i:Nat=>(i:Int)) (List.range (n+1))).Nodup:=List.Pairwise.map _ (fun a b h=>by omega) List.nodup_range
  have c1:=List.nodup_iff_count.1 hnd n
  have c2:=List.count_pos_iff.2 hm
  rw[e]at h4
  unfold qCa
  omega
end Go.Proofs
namespace Go.Proofs
open Go Go.Sx
attribute [local irreducible] Go.Sx.Tri
theorem CaAt.sub{V0 V:Mem}{p k n:Nat}{c:List Int}(h:CaAt p k c n V0 V):V0.sub V:=by
 obtain⟨mb,S,B,N,P,L,f,h,-⟩:=h
 exact h.sub
section
variable{V0 V:Mem}{p k n:Nat}{c xs:List Int}{l:Sl}{m:Int}
theorem qCn{i:Nat}{x:Int}(h:xs[i]?=some x):xs.take (i+1)=xs.take i++[x]:=by rw[List.take_add_one,h];rfl
theorem touchStep{i:Nat}(h:CaAt p k (tchL k c (xs.take i)) (n+qIP k c (xs.take i)) V0 V)(hk:1<=k/\k<=1000){x:Int}(hx:xs[i]?=some x)(hb:0<=x/\x<=1048576)(hn:n+xs.length<2147483648) :
  Tri Tryz.prog 63 #[pv p,.int .i64 x] V fun e V'=>(∃b:Bool,e=.returned (.tuple #[.bool b,.int .i64 0]))/\CaAt p k (tchL k c (xs.take (i+1))) (n+qIP k c (xs.take (i+1))) V0 V':=by
 have h1:=qKn k (xs.take i) c
 have hi:=(List.getElem?_eq_some_iff.1 hx).1
 rw[List.length_take]at h1
 refine Tri.mono (c63 h hk hb (by omega)) ?_
 rintro _ V' ⟨rfl,h2⟩
 rw[qCn hx,tchL_snoc,misL_snoc,<- Nat.add_assoc]
 exact⟨⟨_,rfl⟩,h2⟩
theorem c54(h:CaAt p k c n V0 V)(hk:1<=k/\k<=1000)(hl:qAc V0 l 1 (xs.map qAe))(hb:∀x∈xs,0<=x/\x<=1048576)(hn:n+xs.length<2147483648) :
  Tri Tryz.prog 54 #[pv p,l.v] V fun e V'=>e=.returned (.int .i64 (qIP k c xs))/\CaAt p k (tchL k c xs) (n+qIP k c xs) V0 V':=by
 refine x54 ?_
 unfold w54
 refine(c90 h).call ⟨_,rfl,?_⟩
 refine qIY xs.length (fun i V1=>CaAt p k (tchL k c (xs.take i)) (n+qIP k c (xs.take i)) V0 V1) h ?_
 intro i V1 J hi h1 hJ
 have hl1:=hl.sub h1.sub
 refine⟨fun hlt=>?_,fun hge=>?_⟩
 ·obtain⟨x,hxm,hx,-,hil,hp,hz,hrow⟩:=hl1.get hlt
  refine⟨hp,hz,hlt,_,hrow,Tri.mono (touchStep h1 hk hx (hb x hxm) hn) ?_⟩
  rintro _ V2 ⟨⟨b,rfl⟩,h2⟩
  exact⟨_,_,rfl,hl1.succ hlt,hJ hil _ h2⟩
 ·have hd:=(hl1.done hge).2
  rw[List.take_of_length_le hd]at h1
  have h2:=qKn k xs c
  refine(c90 h1).call ⟨_,rfl,⟨by omega,by omega⟩,?_,h1⟩
  grind
end
theorem g143:IdxP 143 qAe (Value.int .i64) 1:=by
 intro V l xs g first caps hg St Hit hrows h0 hp
 refine x143 (a:=l) (b:=.func (.func g) first.toArray caps.toArray) ?_
 unfold w143
 refine qBp xs.length St h0 ?_
 intro i b V1 J hi hs hJ
 have h:=hrows i V1 hs
 refine⟨fun hlt=>?_,fun hge=>?_⟩
 ·obtain⟨x,hm,hx,hd,hl,hp0,hz,hrow⟩:=h.get hlt
  refine⟨hp0,hz,hlt,_,hrow,g,_,_,rfl,hg,Tri.mono (hp i x V1 hx hs) ?_⟩
  rintro e V2 ⟨b,rfl,h1,h2⟩
  exact⟨b,rfl,fun hb=>.inl ⟨i,rfl,h1 hb⟩,fun hb=>⟨h.succ hlt,hJ hl _ _ (h2 (by simpa using hb))⟩⟩
 ·have e:i=xs.length:=by have:=(h.done hge).2;omega
  simp_all
theorem g97:ConP 97 qAe (Value.int .i64) 1:=conG g143 x97
theorem c97:ConC 97 qAe (Value.int .i64) 1:=conC g97
section
variable{V:Mem}{xs:List Int}{l:Sl}{m size:Int}
theorem c98{x:Int}:PP 98 [.int .i64 x] V (.bool (decide (x<0)||decide (1048576<x))):=by
 refine x98 ?_
 unfold w98
 refine⟨fun h=>?_,fun h=>?_⟩
 ·simp_all
 grind
theorem c62(hl:qAc V l 1 (xs.map qAe))(hb:∀x∈xs,0<=x/\x<=1048576):PP 62 [l.v,.int .i64 m] V (.int .i64 (if 1<=m/\m<=1000 then (if 65536<xs.length then 4 else 0) else 2)):=by
 refine x62 ?_
 unfold w62
 have hn:=hl.n_eq
 refine(c97 (l:=l) (first:=[]) (caps:=[]) hl Tryz.call98 (fun x=>decide (x<0)||decide (1048576<x)) (fun x _=>c98)).call ⟨_,rfl,fun h=>?_,fun _=>⟨fun h=>?_,fun h=>⟨fun h2=>?_,fun h2=>⟨fun h3=>?_,fun h3=>?_⟩⟩⟩⟩
 ·grind
 ·grind
 ·grind
 ·grind
 grind
end
section
variable{V:Mem}{xs:List Int}{l:Sl}{size:Int}
theorem c77(hl:qAc V l 1 (xs.map qAe))(hne:xs≠[]):∃M,M∈xs/\(∀x∈xs,x<=M)/\PP 77 [l.v] V (.int .i64 M):=by
 have hn:=hl.n_eq
 have hpos:=List.length_pos_iff.2 hne
 -- the greatest one
 obtain⟨M,hM,hmax⟩:∃M,M∈xs/\∀x∈xs,x<=M:=by
  clear hl hn hpos
  induction xs using qJV with
  | h0=>simp_all
  | h ys y ih =>
   by_cases e:ys=[]
   ·simp_all
   ·obtain⟨M,h1,h2⟩:=ih e
    by_cases c:M<y
    ·refine⟨y,by simp,fun x hx=>?_⟩
     grind
    ·refine⟨M,by simp[h1],fun x hx=>?_⟩
     grind
 refine⟨M,hM,hmax,x77 ?_⟩
 unfold w77
 refine⟨fun h=>absurd (show (l.n:Int)<1 from h) (by omega),fun _=>?_⟩
 obtain⟨p1,p2,p3,p4⟩:=qBV hl (List.getElem?_eq_getElem hpos)
 refine⟨p1,p2,p3,_,p4,fun n ys V'=>∃(i:Nat) (m:Int),ys=[.int .i64 m,.int .i64 i]/\1<=i/\i<=xs.length/\n=xs.length-i/\V'=V/\m∈xs/\∀j x,j<i->xs[j]?=some x->x<=m,xs.length-1,⟨1,_,rfl,Nat.le_refl _,hpos,rfl,rfl,List.getElem_mem hpos,fun j x hj hx=>?_⟩,?_⟩
 ·simp_all
 rintro n V' v2 v3 ⟨i,m,hys,h1,h2,rfl,rfl,hm,hall⟩ J hJ
 simp only[List.cons.injEq,Value.int.injEq,true_and,and_true]at hys
 obtain⟨rfl,rfl⟩:=hys
 refine⟨fun hlt=>?_,fun hge=>?_⟩
 ·obtain⟨y,hym,hy,-,hil,hp,hz,hrow⟩:=hl.get hlt
  refine⟨hp,hz,hlt,_,hrow,GenK.max2 (n1:=v2) (n2:=y) rfl rfl ⟨_,rfl,hl.succ hlt,hJ (xs.length-(i+1)) _ _ (by omega) ⟨i+1,_,rfl,by omega,hil,rfl,rfl,?_,fun j x hj hx=>?_⟩⟩⟩
  ·grind
  grind
 ·have hge:¬(i:Int)<(l.n:Int):=hge
  have e:v2=M:=by
   grind [List.mem_iff_getElem?,List.getElem?_eq_some_iff]
  simp_all
theorem qGE{i:Nat}{x y:Int}(h:xs[i]?=some x):(xs.take (i+1)).count y=(xs.take i).count y+if x=y then 1 else 0:=by
 rw[qCn h,List.count_append]
 grind
theorem c41(hl:qAc V l 1 (xs.map qAe))(h:Pl0 xs size)(hb:∀b∈xs,b<=1048576):PP 41 [l.v,.int .i64 size] V (.int .i64 (qCa xs size)):=by
 refine x41 ?_
 unfold w41
 have hn:=hl.n_eq
 have hc:=hl.cap
 have hf:=hl.fit
 refine⟨fun h0=>?_,fun h0=>?_⟩
 ·have:xs=[]:=List.length_eq_zero_iff.1 (by omega)
  subst this
  exact⟨rfl,rfl⟩
 ·have hne:xs≠[]:=fun e=>h0 (by rw[hn,e];rfl)
  obtain⟨M,hM,hmax,hP⟩:=c77 hl hne
  have h1:=h.lo M hM
  have h2:=hb M hM
  refine hP.call ⟨_,rfl,qEX (mk:=.int .i64) (b0:=0) qFS xs.length (fun i b V1=>V1=V/\b=(((xs.take i).count M:Nat):Int)) ⟨rfl,rfl⟩ ?_⟩
  rintro i b V1 J hi ⟨rfl,rfl⟩ hJ
  refine⟨fun hlt=>?_,fun hge=>?_⟩
  ·obtain⟨y,hym,hy,-,hil,hp,hz,hrow⟩:=hl.get hlt
   have e:=qGE (y:=M) hy
   have hcl:(xs.take i).count M<=i:=Nat.le_trans List.count_le_length (by simp_all)
   refine⟨hp,hz,hlt,_,hrow,fun hE=>⟨⟨by omega,by omega⟩,hl.succ hlt,hJ hil _ _ ⟨rfl,?_⟩⟩,fun hE=>⟨hl.succ hlt,hJ hil _ _ ⟨rfl,?_⟩⟩⟩
   ·simp_all
   simp_all
  ·have hd:=(hl.done hge).2
   rw[List.take_of_length_le hd]
   have e:=furth_eq h hM hmax rfl
   refine⟨fun hlt=>?_,fun hge=>⟨⟨by omega,by omega⟩,?_⟩⟩
   ·simp_all
   simp_all
open Classical in
noncomputable def plB(xs:List Int)(size:Int):Bool:=decide (xs.length<=4096/\Plc xs size)
theorem qFG:plB xs size=true↔xs.length<=4096/\Plc xs size:=by grind [plB]
theorem plB_false(h:¬(xs.length<=4096/\Plc xs size)):plB xs size=false:=by grind [plB]
theorem plc_next{i:Nat}{x:Int}(h:Plc (xs.take i) size)(hx:xs[i]?=some x)(h1:0<=x/\x<4096)(h2:(((xs.take (i+1)).count x:Nat):Int)<=size):Plc (xs.take (i+1)) size:=by
 rw[qCn hx]at h2 ⊢
 exact h.snoc h1 h2
theorem plc_not{i:Nat}{x:Int}(hx:xs[i]?=some x)(h:¬(0<=x/\x<4096)∨size<(((xs.take (i+1)).count x:Nat):Int)):¬Plc xs size:=fun P=>by
 have hm:=List.mem_of_getElem? hx
 have a:=P.rng x hm
 have b:=P.cnt x hm
 grind [List.take_sublist]
theorem c40{n:Int}(hl:qAc V l 1 (xs.map qAe)):PP 40 [l.v,.int .i64 size,.int .i64 n] V (.bool (decide ((xs.length:Int)=n)&&plB xs size)):=by
 obtain⟨R,hR⟩:∃R:Ending->Mem->Prop,R=fun e V'=>e=.returned (.bool (decide ((xs.length:Int)=n)&&plB xs size))/\V.sub V':=⟨_,rfl⟩
 refine Pur.mk ?_
 rw[<- hR]
 refine x40 ?_
 unfold w40
 have hn:=hl.n_eq
 have no:∀{V'},V.sub V'->¬(xs.length<=4096/\Plc xs size)->R (.returned (.bool false)) V':=fun hs h=>by
  rw[hR,plB_false h,Bool.and_false];exact⟨rfl,hs⟩
 refine⟨fun he=>⟨fun hg=>?_,fun hg=>?_⟩,fun he=>?_⟩
 ·grind [Int,Mem.sub.refl]
 ·have he:(l.n:Int)=n:=he
  have hg:¬4096<n:=hg
  refine GenK.makeMap fun mb hmb=>⟨some mb,rfl,?_⟩
  have s1:=Mem.sub_new hmb (.map #[] 0)
  refine qBp (mk:=.bool) (b0:=false) xs.length (fun i V1=>V.sub V1/\Plc (xs.take i) size/\qEd (Value.int .i64) V1 mb fun x=>if x∈xs.take i then some (.int .i64 (((xs.take i).count x:Nat):Int)) else none) ⟨s1,by rw[List.take_zero];exact Plc.nil,(qEd.made V mb).congr fun x=>by simp⟩ ?_
  rintro i b V1 J hi ⟨hs,hP,hm⟩ hJ
  have hl1:=hl.sub hs
  refine⟨fun hlt=>?_,fun hge=>?_⟩
  ·obtain⟨x,hxm,hx,-,hil,hp,hz,hrow⟩:=hl1.get hlt
   have e:=qGE (y:=x) hx
   rw[if_pos rfl]at e
   have hcl:(xs.take i).count x<=i:=Nat.le_trans List.count_le_length (by simp_all)
   have hval:((if x∈xs.take i then some (Value.int .i64 (((xs.take i).count x:Nat):Int)) else none:Option Value).getD (.int .i64 0))=.int .i64 (((xs.take i).count x:Nat):Int):=by
    grind
   refine⟨hp,hz,hlt,_,hrow,qBi.key1 (k:=x) (qEa Tryz.underlying3) Tryz.underlying132 qEf hm ⟨_,hval,⟨by omega,by omega⟩,qCv.key (k:=x) (qEa Tryz.underlying3) Tryz.underlying132 hm fun om hom=>?_⟩⟩
   have hs2:V.sub (V1.set mb om):=hs.set hmb om
   have hom2:qEd (Value.int .i64) (V1.set mb om) mb fun y=>if y∈xs.take (i+1) then some (.int .i64 (((xs.take (i+1)).count y:Nat):Int)) else none:=hom.congr fun y=>by
    have ey:=qGE (y:=y) hx
    grind
   refine⟨fun h=>no hs2 fun P=>?_,fun h1=>⟨fun h=>no hs2 fun P=>?_,fun h2=>?_⟩⟩
   ·grind [plc_not]
   ·grind [plc_not]
   ·have h1:¬x<0:=h1
    have h2:¬4096<=x:=h2
    refine qBi.key1 (k:=x) (qEa Tryz.underlying3) Tryz.underlying132 qEf hom2 ⟨(((xs.take (i+1)).count x:Nat):Int),by grind,fun h=>no hs2 fun P=>plc_not hx (.inr h) P.2,fun h3=>?_⟩
    exact⟨hl1.succ hlt,hJ hil _ _ ⟨hs2,plc_next hP hx (by omega) (Int.not_lt.1 h3),hom2⟩⟩
  ·have hd:=(hl1.done hge).2
   rw[List.take_of_length_le hd]at hP
   rw[hR,qFG.2 ⟨by omega,hP⟩,decide_eq_true (by omega)]
   grind
 ·have he:¬(l.n:Int)=n:=he
  rw[hR,decide_eq_false (by omega)]
  exact⟨rfl,Mem.sub.refl _⟩
end
theorem oneG{α:Type}{t e sz:Nat}{row:α->List Value}(A:AppP t e sz row){V0 V:Mem}{b:Nat}{s:Sl}{xs:List α}{x:α}(o:Sx.Own V0 V e sz s (xs.flatMap row))(hb:V b=none)(hn:xs.length+1<=2147483648){ty:Nat}{y z:Operand}{vals:Operand->Value}(hx:vals y=.slice s.p s.n s.c)(hy:vals z=.slice (sa b) 1 1)(hl:∀x,(row x).length=sz){Q:Value->Mem->Prop}(hQ:∀s' V',Sx.Own V0 V' e sz s' ((xs++[x]).flatMap row)->Q (.slice s'.p s'.n s'.c) V') :
  GenK Tryz.prog (.call { callee:=.builtin .append,args:=#[y,z],argTypes:=#[t,t] }) ty vals (V.set b (.cells (row x).toArray e (0,0))) Q :=
 A (s:=s) (u:=⟨some ⟨b,0,none⟩,1,1⟩) (xs:=xs) (ys:=[x]) hx hy (o.new hb _) (qAc.cells (xs:=[x]) (row:=row) mss (by simp) hl (by simp) (by simp)) (by simpa using hn) hQ
end Go.Proofs
namespace Go.Proofs
open Go Go.Sx
def qHc(most:Nat)(but l:List Int)(y:Int):List Int:=if l.length<most/\y ∉ l/\y ∉ but then l++[y] else l
def bfsP(d:Ds)(m:Mm)(most:Nat)(but:List Int):Nat->List Int->Nat->List Int
 | 0,l,_=>l
 | f+1,l,i=>match l[i]? with|some x=>bfsP d m most but f ((qAO d m x).foldl (qHc most but) l) (i+1) | none=>l
def qDH(d:Ds)(m:Mm)(l:List Int)(most:Nat)(but:List Int):List Int:=bfsP d m most but (m.nodes.length+1) l 0
def qHi(l:List Int)(n:Nat):List Int:=l++((List.range n).map fun i:Nat=>(i:Int)+1).filter fun x=>decide (x ∉ l)
structure Nds (N:Nat) (l:List Int):Prop where
 nd:l.Nodup
 rng:∀x∈l,1<=x/\x<=(N:Int)
def allN(N:Nat):List Int:=(List.range N).map fun i:Nat=>(i:Int)+1
theorem allN_len(N:Nat):(allN N).length=N:=by grind [allN]
theorem mem_allN{N:Nat}{x:Int}:x∈allN N↔1<=x/\x<=(N:Int):=by
 unfold allN
 rw[List.mem_map]
 constructor
 ·grind
 ·intro h
  exact⟨(x-1).toNat,List.mem_range.2 (by omega),by omega⟩
theorem allN_nd(N:Nat):(allN N).Nodup:=List.Pairwise.map _ (fun a b h=>by omega) List.nodup_range
theorem Nds.nil{N:Nat}:Nds N []:=⟨List.nodup_nil,by simp⟩
theorem Nds.len{N:Nat}{l:List Int}(h:Nds N l):l.length<=N:=by
 have:=nodup_le l (allN N) h.nd fun x hx=>mem_allN.2 (h.rng x hx)
 rwa [allN_len]at this
theorem Nds.snoc{N:Nat}{l:List Int}(h:Nds N l){y:Int}(hy:1<=y/\y<=(N:Int))(hn:y ∉ l):Nds N (l++[y]):=by
 refine⟨?_,fun x hx=>?_⟩
 ·rw[List.nodup_append]
  exact⟨h.nd,by simp,fun a ha b hb e=>hn (by simp_all)⟩
 ·rcases List.mem_append.1 hx with hx|hx
  ·exact h.rng x hx
  simp_all
theorem Nds.add{N most:Nat}{but l:List Int}(h:Nds N l){y:Int}(hy:1<=y/\y<=(N:Int)):Nds N (qHc most but l y):=by
 unfold qHc
 split
 ·rename_i c;exact h.snoc hy c.2.1
 ·exact h
theorem add_sub{most:Nat}{but l:List Int}{y x:Int}(h:x∈l):x∈qHc most but l y:=by
 grind [qHc]
structure Spr (N most:Nat) (but l0 l:List Int):Prop where
 nds:Nds N l
 sub:∀x∈l0,x∈l
 new:∀x∈l,x∈l0∨x ∉ but
 cap:l.length<=most∨l.length<=l0.length
theorem Spr.refl{N most:Nat}{but l:List Int}(h:Nds N l):Spr N most but l l:=⟨h,fun _ h=>h,fun _ h=>.inl h,.inr (Nat.le_refl _)⟩
theorem Spr.add{N most:Nat}{but l0 l:List Int}(h:Spr N most but l0 l){y:Int}(hy:1<=y/\y<=(N:Int)):Spr N most but l0 (qHc most but l y):=by
 refine⟨h.nds.add hy,fun x hx=>add_sub (h.sub x hx),fun x hx=>?_,?_⟩
 ·unfold qHc at hx
  split at hx
  ·rename_i c
   rcases List.mem_append.1 hx with hx|hx
   ·exact h.new x hx
   simp_all
  ·exact h.new x hx
 ·unfold qHc
  split
  ·grind
  ·exact h.cap
theorem Spr.fold{N most:Nat}{but l0:List Int}:∀(ys l:List Int),Spr N most but l0 l->(∀y∈ys,1<=y/\y<=(N:Int))->Spr N most but l0 (ys.foldl (qHc most but) l)
 | [],_,h,_=>h
 | y::ys,l,h,hy=>Spr.fold ys _ (h.add (hy y (by simp))) fun z hz=>hy z (by simp[hz])
section
variable{d:Ds}{m:Mm}{most:Nat}{but:List Int}
theorem Spr.bfs(hv:qAx d m=true){l0:List Int}:∀(f:Nat) (l:List Int) (i:Nat),Spr m.nodes.length most but l0 l->Spr m.nodes.length most but l0 (bfsP d m most but f l i)
 | 0,_,_,h=>h
 | f+1,l,i,h=>by
  unfold bfsP
  split
  ·exact Spr.bfs hv f _ _ (h.fold _ _ ((qJj hv).2 _))
  ·exact h
theorem qJL(hv:qAx d m=true){l:List Int}(h:Nds m.nodes.length l):Spr m.nodes.length most but l (qDH d m l most but):=Spr.bfs hv _ _ _ (Spr.refl h)
end
theorem qKb{N:Nat}{l:List Int}(h:Nds N l):Nds N (qHi l N)/\∀x,1<=x->x<=(N:Int)->x∈qHi l N:=by
 have hm:∀x,x∈((List.range N).map fun i:Nat=>(i:Int)+1).filter (fun x=>decide (x ∉ l))↔(1<=x/\x<=(N:Int))/\x ∉ l:=fun x=>by
  rw[List.mem_filter,decide_eq_true_eq];exact and_congr_left fun _=>mem_allN
 refine⟨⟨?_,fun x hx=>?_⟩,fun x h1 h2=>?_⟩
 ·unfold qHi
  rw[List.nodup_append]
  refine⟨h.nd,(allN_nd N).filter _,fun a ha b hb e=>?_⟩
  simp_all
 ·rcases List.mem_append.1 hx with hx|hx
  ·exact h.rng x hx
  grind
 grind [qHi,inr]
structure qEA (N:Nat) (O:List Int) (size:Nat) (out:List Int):Prop where
 len:out.length=N
 at_:∀(i:Nat) (n:Int),O[i]?=some n->out[(n-1).toNat]?=some ((i / size:Nat):Int)
theorem qEA.eq{N size:Nat}{O a b:List Int}(h:qEA N O size a)(k:qEA N O size b)(hO:∀x,1<=x->x<=(N:Int)->x∈O):a=b:=by
 refine List.ext_getElem? fun j=>?_
 by_cases hj:j<N
 ·obtain⟨i,hi⟩:=List.mem_iff_getElem?.1 (hO ((j:Int)+1) (by omega) (by omega))
  have h1:=h.at_ i _ hi
  have h2:=k.at_ i _ hi
  simp_all
 ·rw[List.getElem?_eq_none (by rw[h.len];omega),List.getElem?_eq_none (by rw[k.len];omega)]
theorem plc_of{N size:Nat}{out:List Int}(hl:out.length=N)(hN:N<=4096)(hb:∀b∈out,0<=b/\b<(N:Int))(hc:∀b∈out,∃S:List Int,S.length<=size/\∀j:Nat,out[j]?=some b->((j:Int)+1)∈S):Plc out size/\Low out:=by
 refine⟨⟨fun b h=>by grind,fun b h=>?_⟩,fun b h=>by simp_all⟩
 obtain⟨S,hS,hall⟩:=hc b h
 have e:out.count b=(((List.range out.length).filter fun j=>decide (out[j]?=some b)).map fun j:Nat=>(j:Int)+1).length:=by
  rw[List.length_map]
  clear hall hS h hc hb hl
  induction out using qJV with
  | h0=>rfl
  | h l x ih =>
   rw[List.count_append,ih,List.length_append,List.length_singleton,List.range_succ,List.filter_append,List.length_append]
   grind [List.filter_congr,List.getElem?_append_left]
 have h1:=nodup_le (((List.range out.length).filter fun j=>decide (out[j]?=some b)).map fun j:Nat=>(j:Int)+1) S (List.Pairwise.map _ (fun a b h=>by omega) (List.nodup_range.filter _)) fun x hx=>by
  grind
 omega
theorem qEA.plc{N size:Nat}{O out:List Int}(h:qEA N O size out)(hO:∀x,1<=x->x<=(N:Int)->x∈O)(hn:Nds N O)(hs:1<=size)(hN:N<=4096):Plc out size/\Low out:=by
 have at1:∀(j:Nat) (b:Int),out[j]?=some b->∃i:Nat,O[i]?=some ((j:Int)+1)/\b=((i / size:Nat):Int):=fun j b hb=>by
  have hj:j<N:=by rw[<- h.len];grind
  obtain⟨i,hi⟩:=List.mem_iff_getElem?.1 (hO ((j:Int)+1) (by omega) (by omega))
  have h1:=h.at_ i _ hi
  grind
 refine plc_of h.len hN (fun b hb=>?_) fun b hb=>?_
 ·obtain⟨j,hj⟩:=List.mem_iff_getElem?.1 hb
  obtain⟨i,hi,rfl⟩:=at1 j b hj
  have h1:=hn.len
  have h2:=(List.getElem?_eq_some_iff.1 hi).1
  have h3:=Nat.div_le_self i size
  grind
 ·obtain⟨j,hj⟩:=List.mem_iff_getElem?.1 hb
  obtain⟨i,hi,rfl⟩:=at1 j b hj
  refine⟨(O.drop (i / size*size)).take size,by grind,fun j' hj'=>?_⟩
  obtain⟨i',hi',e⟩:=at1 j' _ hj'
  have e:i' / size=i / size:=by omega
  have a1:=Nat.div_add_mod i' size
  have a2:=Nat.mod_lt i' (show 0<size by omega)
  rw[e,Nat.mul_comm]at a1
  refine List.mem_iff_getElem?.2 ⟨i'-i / size*size,?_⟩
  rw[List.getElem?_take,if_pos (by omega),List.getElem?_drop,show i / size*size+(i'-i / size*size)=i' by omega]
  exact hi'
structure CluOf (N:Nat) (size:Nat) (cl:List (List Int)) (out:List Int):Prop where
 len:out.length=N
 at_:∀(i:Nat) (c:List Int),cl[i]?=some c->∀n∈c,out[(n-1).toNat]?=some (i:Int)
theorem CluOf.eq{N size:Nat}{cl:List (List Int)}{a b:List Int}(h:CluOf N size cl a)(k:CluOf N size cl b)(hO:∀x,1<=x->x<=(N:Int)->∃c∈cl,x∈c):a=b:=by
 refine List.ext_getElem? fun j=>?_
 by_cases hj:j<N
 ·obtain⟨c,hc,hx⟩:=hO ((j:Int)+1) (by omega) (by omega)
  obtain⟨i,hi⟩:=List.mem_iff_getElem?.1 hc
  have h1:=h.at_ i _ hi _ hx
  have h2:=k.at_ i _ hi _ hx
  simp_all
 ·rw[List.getElem?_eq_none (by rw[h.len];omega),List.getElem?_eq_none (by rw[k.len];omega)]
theorem CluOf.plc{N size:Nat}{cl:List (List Int)}{out:List Int}(h:CluOf N size cl out)(hO:∀x,1<=x->x<=(N:Int)->∃c∈cl,x∈c)(hs:∀c∈cl,c.length<=size)(hc:cl.length<=N)(hN:N<=4096):Plc out size/\Low out:=by
 have at1:∀(j:Nat) (b:Int),out[j]?=some b->∃(i:Nat) (c:List Int),cl[i]?=some c/\((j:Int)+1)∈c/\b=(i:Int):=fun j b hb=>by
  have hj:j<N:=by rw[<- h.len];grind
  obtain⟨c,hcm,hx⟩:=hO ((j:Int)+1) (by omega) (by omega)
  obtain⟨i,hi⟩:=List.mem_iff_getElem?.1 hcm
  have h1:=h.at_ i _ hi _ hx
  grind
 refine plc_of h.len hN (fun b hb=>?_) fun b hb=>?_
 ·obtain⟨j,hj⟩:=List.mem_iff_getElem?.1 hb
  grind
 ·obtain⟨j,hj⟩:=List.mem_iff_getElem?.1 hb
  obtain⟨i,c,hi,-,rfl⟩:=at1 j b hj
  refine⟨c,hs c (List.mem_of_getElem? hi),fun j' hj'=>?_⟩
  grind
end Go.Proofs
namespace Go.Proofs
open Go Go.Sx
def cluS(d:Ds)(m:Mm)(size:Nat)(s:List (List Int))(n:Int):List (List Int):=if n∈s.flatten then s else s++[qDH d m [n] size s.flatten]
def cluP(d:Ds)(m:Mm)(size:Nat)(O:List Int):List (List Int):=O.foldl (cluS d m size) []
structure CluI (N size:Nat) (s:List (List Int)):Prop where
 nds:Nds N s.flatten
 all:∀c∈s,c≠[]/\c.length<=size
theorem CluI.len{N size:Nat}{s:List (List Int)}(h:CluI N size s):s.length<=N:=by
 have h1:∀s:List (List Int),(∀c∈s,c≠[])->s.length<=s.flatten.length:=fun s=>by
  induction s with
  | nil=>simp_all
  | cons c s ih =>
   grind [List.length_pos_iff,List.flatten_cons,List.length_append,List.length_cons]
 exact Nat.le_trans (h1 s fun c hc=>(h.all c hc).1) h.nds.len
section
variable{d:Ds}{m:Mm}{size:Nat}
theorem clu_new(hv:qAx d m=true)(hs:1<=size){but:List Int}{n:Int}(hn:1<=n/\n<=(m.nodes.length:Int))(hb:n ∉ but):Nds m.nodes.length (qDH d m [n] size but)/\n∈qDH d m [n] size but/\(∀x∈qDH d m [n] size but,x ∉ but)/\(qDH d m [n] size but).length<=size:=by
 have h:=qJL (most:=size) (but:=but) hv (l:=[n]) (Nds.nil.snoc hn (by simp))
 refine⟨h.nds,h.sub n (by simp),fun x hx=>?_,?_⟩
 ·rcases h.new x hx with h|h
  ·simp_all
  ·exact h
 ·rcases h.cap with h|h
  ·exact h
  grind
theorem CluI.step(hv:qAx d m=true)(hs:1<=size){s:List (List Int)}(h:CluI m.nodes.length size s){n:Int}(hn:1<=n/\n<=(m.nodes.length:Int)):CluI m.nodes.length size (cluS d m size s n)/\n∈(cluS d m size s n).flatten/\∀x∈s.flatten,x∈(cluS d m size s n).flatten:=by
 unfold cluS
 by_cases c:n∈s.flatten
 ·simp_all
 ·rw[if_neg c]
  obtain⟨h1,h2,h3,h4⟩:=clu_new hv hs hn c
  rw[List.flatten_append,List.flatten_singleton]
  refine⟨⟨?_,fun x hx=>?_⟩,by simp[h2],fun x hx=>by simp_all⟩
  ·rw[List.flatten_append,List.flatten_singleton]
   refine⟨?_,fun x hx=>?_⟩
   ·rw[List.nodup_append]
    exact⟨h.nds.nd,h1.nd,fun a ha b hb e=>h3 b hb (by simp_all)⟩
   ·rcases List.mem_append.1 hx with hx|hx
    ·exact h.nds.rng x hx
    ·exact h1.rng x hx
  ·rcases List.mem_append.1 hx with hx|hx
   ·exact h.all x hx
   grind
theorem clu_ok(hv:qAx d m=true)(hs:1<=size):∀(O:List Int) (s:List (List Int)),CluI m.nodes.length size s->(∀x∈O,1<=x/\x<=(m.nodes.length:Int))->CluI m.nodes.length size (O.foldl (cluS d m size) s)/\∀x,x∈O∨x∈s.flatten->x∈(O.foldl (cluS d m size) s).flatten
 | [],s,h,_=>⟨h,fun x hx=>hx.resolve_left (by simp)⟩
 | n::O,s,h,ho=>by
  obtain⟨h1,h2,h3⟩:=h.step hv hs (ho n (by simp))
  obtain⟨k1,k2⟩:=clu_ok hv hs O _ h1 fun x hx=>ho x (by simp[hx])
  grind
def qCP(d:Ds)(m:Mm):List Int:=qHi (qHX d m).order m.nodes.length
def firstP(d:Ds)(m:Mm):List Int:=(tgt d.globals m.globals).foldl (qHc (m.nodes.length+1) []) []
def qIJ(d:Ds)(m:Mm):List Int:=qHi (qDH d m (firstP d m) m.nodes.length []) m.nodes.length
def qCL(d:Ds)(m:Mm)(k:Int):List Int:=if k=1 then qHi [] m.nodes.length else if k=2 then qCP d m else qIJ d m
theorem qGD(hv:qAx d m=true):Nds m.nodes.length (qCP d m)/\∀x,1<=x->x<=(m.nodes.length:Int)->x∈qCP d m :=
 qKb ⟨(qKd hv).dup,(qKd hv).rng⟩
theorem first_spr(hv:qAx d m=true):Spr m.nodes.length (m.nodes.length+1) [] [] (firstP d m):=(Spr.refl Nds.nil).fold _ _ (qJj hv).1
theorem qKi(hv:qAx d m=true)(k:Int):Nds m.nodes.length (qCL d m k)/\∀x,1<=x->x<=(m.nodes.length:Int)->x∈qCL d m k:=by
 unfold qCL
 split
 ·exact qKb Nds.nil
 ·split
  ·exact qGD hv
  ·exact qKb (qJL hv (first_spr hv).nds).nds
def qAK(d:Ds)(m:Mm)(k:Int)(size:Nat)(out:List Int):Prop:=if k<4 then qEA m.nodes.length (qCL d m k) size out else CluOf m.nodes.length size (cluP d m size (qCP d m)) out
theorem place_eq(hv:qAx d m=true)(hs:1<=size){k:Int}{a b:List Int}(h:qAK d m k size a)(h':qAK d m k size b):a=b:=by
 unfold qAK at h h'
 split at h
 ·rename_i c
  rw[if_pos c]at h'
  exact h.eq h' (qKi hv k).2
 ·rename_i c
  rw[if_neg c]at h'
  refine h.eq h' fun x h1 h2=>?_
  obtain⟨-,k2⟩:=clu_ok hv hs (qCP d m) [] ⟨Nds.nil,by simp⟩ (qGD hv).1.rng
  have:=k2 x (.inl ((qGD hv).2 x h1 h2))
  obtain⟨c,h1,h2⟩:=List.mem_flatten.1 this
  exact⟨c,h1,h2⟩
theorem place_plc(hv:qAx d m=true)(hs:1<=size){k:Int}{a:List Int}(h:qAK d m k size a):Plc a size/\Low a/\a.length=m.nodes.length:=by
 have hN:=(qAi hv).2.1
 unfold qAK at h
 split at h
 ·obtain⟨h1,h2⟩:=qKi hv k
  exact⟨(h.plc h2 h1 hs hN).1,(h.plc h2 h1 hs hN).2,h.len⟩
 ·obtain⟨k1,k2⟩:=clu_ok hv hs (qCP d m) [] ⟨Nds.nil,by simp⟩ (qGD hv).1.rng
  have:=h.plc (fun x h1 h2=>List.mem_flatten.1 (k2 x (.inl ((qGD hv).2 x h1 h2)))) (fun c hc=>(k1.all c hc).2) k1.len hN
  exact⟨this.1,this.2,h.len⟩
theorem place_own{out:List Int}(h:qAK d m 1 1 out):out=(List.range m.nodes.length).map fun i:Nat=>(i:Int):=by
 unfold qAK at h
 rw[if_pos (by decide)]at h
 have e:qCL d m 1=allN m.nodes.length:=by
  unfold qCL
  rw[if_pos rfl]
  unfold qHi allN
  rw[List.nil_append,List.filter_eq_self.2 (by simp)]
 rw[e]at h
 refine List.ext_getElem? fun j=>?_
 by_cases hj:j<m.nodes.length
 ·have h1:=h.at_ j ((j:Int)+1) (by grind [allN])
  simp_all
 ·rw[List.getElem?_eq_none (by rw[h.len];omega),List.getElem?_eq_none (by simp;omega)]
end
end Go.Proofs
namespace Go.Proofs
open Go Go.Sx
attribute [local irreducible] Go.Sx.Tri
section
variable{V:Mem}{d:Ds}{m:Mm}
def TgtP(V:Mem)(xs:List Int):Ending->Mem->Prop:=fun e V'=>∃s:Sl,e=.returned s.v/\Sx.Own V V' 3 1 s (xs.flatMap qAe)
theorem tgt_len(fs:List Fld)(vs:List Int)(i:Nat):(tgtI fs vs i).length<=fs.length:=by
 grind [tgtI]
theorem ref_pos{fs:List Fld}{vs:List Int}(h:qAg d m fs vs=true){i:Nat}{f:Fld}{v:Int}(hf:fs[i]?=some f)(hv:vs[i]?=some v)(hp:qDY f.ty=false):qES (f,v)=decide (0<v):=by
 unfold qES
 rw[hp]
 by_cases c:v=0
 ·simp[c]
 ·have:=ref_in h hf hv hp c
  simp[c];omega
theorem c133{fl vl:Sl}{fs:List Fld}{vs:List Int}(hl:qAc V fl 2 (fs.map Fld.row))(hv:qAc V vl 1 (vs.map qAe))(h:qAg d m fs vs=true)(hb:fs.length<=4096):Tri Tryz.prog 133 #[fl.v,vl.v] V (TgtP V (tgt fs vs)):=by
 obtain⟨R,hR⟩:∃R,R=TgtP V (tgt fs vs):=⟨_,rfl⟩
 rw[<- hR]
 refine x133 ?_
 unfold w133
 have he:=values_len h
 refine qEX (mk:=fun s:Sl=>.slice s.p s.n s.c) (b0:=⟨none,0,0⟩) qBE fs.length (fun i s V1=>Sx.Own V V1 3 1 s ((tgtI fs vs i).flatMap qAe)) (Own.nil (Mem.sub.refl _) _ _) ?_
 rintro i s V1 J hi o hJ
 have hl1:=hl.sub o.sub
 have hv1:=hv.sub o.sub
 refine⟨fun hlt=>?_,fun hge=>?_⟩
 ·obtain⟨f,-,hf,-,hil,hp,hz,hrow⟩:=hl1.get hlt
  have hx:=List.getElem?_eq_getElem (l:=vs) (i:=i) (by omega)
  obtain⟨x,hxd⟩:∃x,x=vs[i]'(by omega):=⟨_,rfl⟩
  rw[<- hxd]at hx
  obtain⟨p1,p2,p3,p4⟩:=qBV hv1 hx
  have e:=qHL hf hx
  have hsu:=hl1.succ hlt
  have stay:qES (f,x)=false->J [.slice s.p s.n s.c,.int .i64 ((i:Int)+1)] V1:=fun hr=>hJ hil s _ (by simp_all)
  have pl:qDY f.ty=true->qES (f,x)=false:=fun h=>by grind [qES]
  refine⟨hp,hz,hlt,_,_,hrow,fun c=>⟨hsu,stay (pl (plain_eq (.inl c)))⟩,fun c1=>⟨fun c=>⟨hsu,stay (pl (plain_eq (.inr c)))⟩,fun c2=>⟨p1,p2,p3,_,p4,fun c=>?_,fun c=>⟨hsu,stay ?_⟩⟩⟩⟩
  all_goals
   have hpl:qDY f.ty=false:=by
    have c1:¬f.ty=qBd:=c1
    have c2:¬f.ty=qAw:=c2
    unfold qDY;simp[c1,c2]
  ·have hr:qES (f,x)=true:=by grind [ref_pos,decide_eq_true]
   refine⟨p1,p2,p3,_,p4,fun b hb1=>?_⟩
   have hle:=tgt_len fs vs i
   refine oneG (row:=qAe) qFs (x:=x) (s:=s) o hb1 (by omega) rfl rfl (fun _=>rfl) fun s' V' o'=>?_
   grind
  grind [ref_pos,decide_eq_false]
 ·rw[tgtI_all (hl1.done hge).2]at o
  rw[hR];exact⟨s,rfl,o⟩
theorem node_at(hmv:qAx d m=true)(hd:Ds.Ok V d)(hm:Mm.Ok V m){n:Int}(hn:1<=n/\n<=(m.nodes.length:Int)):∃(x:Nd) (t:Ty) (j:Nat),m.nodes[(n-1).toNat]?=some x/\x.ty=(j:Int)/\d.types[j]?=some t/\qAq d x.ty=t.fields/\qAO d m n=tgt t.fields x.f/\qAg d m t.fields x.f=true /\
  ¬m.ns.p=none/\(n-1)<(m.ns.n:Int)/\V.rowp m.ns.p ((n-1).toNat*2) 2=some x.row/\¬d.ts.p=none/\(j:Int)<(d.ts.n:Int)/\V.rowp d.ts.p (j*2) 2=some t.row/\qAc V t.fs 2 (t.fields.map Fld.row)/\qAc V x.sl 1 (x.f.map qAe):=by
 obtain⟨p1,p2,p3,p4,p5⟩:=qAi hmv
 obtain⟨q,hq⟩:∃q:Nat,n-1=(q:Int):=⟨(n-1).toNat,by omega⟩
 have hql:q<m.nodes.length:=by omega
 have hx:=List.getElem?_eq_getElem hql
 obtain⟨x,hxd⟩:∃x,x=m.nodes[q]:=⟨_,rfl⟩
 rw[<- hxd]at hx
 have hxm:=List.mem_of_getElem? hx
 have hty:=of_decide_eq_true (p3 x hxm)
 obtain⟨j,hj⟩:∃j:Nat,x.ty=(j:Int):=⟨x.ty.toNat,by omega⟩
 have hjl:j<d.types.length:=by omega
 have ht:=List.getElem?_eq_getElem hjl
 obtain⟨t,htd⟩:∃t,t=d.types[j]:=⟨_,rfl⟩
 rw[<- htd]at ht
 have hfo:qAq d x.ty=t.fields:=by rw[hj];exact qBr ht rfl
 have n1:=hm.nodes.n_eq
 have n2:=hd.types.n_eq
 obtain⟨y,-,hy,-,-,a1,a2,a3⟩:=hm.nodes.get (i:=q) (by omega)
 rw[hx]at hy;cases hy
 obtain⟨y,-,hy,-,-,b1,b2,b3⟩:=hd.types.get (i:=j) (by omega)
 rw[ht]at hy;cases hy
 rw[hq,Int.toNat_natCast]
 refine⟨x,t,j,hx,hj,ht,hfo,?_,by grind,a1,by omega,a3,b1,by omega,b3,(hd.typesOk t (List.mem_of_getElem? ht)).fields,(hm.nodesOk x hxm).rows⟩
 simp_all [qAO,Int.toNat_natCast,tgt,qAq]
theorem c134(hv:qAF d=true)(hmv:qAx d m=true)(hd:Ds.Ok V d)(hm:Mm.Ok V m){n:Int}(hn:1<=n/\n<=(m.nodes.length:Int)):Tri Tryz.prog 134 #[d.v,m.v,.int .i64 n] V (TgtP V (qAO d m n)):=by
 refine x134 ?_
 unfold w134
 obtain⟨x,t,j,h1,h2,h3,h4,h5,h6,a1,a2,a3,b1,b2,b3,k1,k2⟩:=node_at hmv hd hm hn
 have hlen:=(lens_of hv).2 t (List.mem_of_getElem? h3)
 have hNn:=hm.nodes.n_eq
 have hc:=hm.nodes.cap
 have hf:=hm.nodes.fit
 refine⟨⟨by omega,by omega⟩,a1,by omega,a2,_,_,a3,?_⟩
 rw[h2,Int.toNat_natCast]
 refine⟨b1,by omega,b2,qAh b1,_,_,b3,Tri.mono (c133 k1 k2 h6 (by omega)) ?_⟩
 rintro _ V1 ⟨s,rfl,o⟩
 rw[h5]
 exact⟨s,rfl,s,rfl,o⟩
end
def qCR(b:Bool):List Value:=[.bool b]
theorem qDy(l:List Bool):l.flatMap qCR=l.map Value.bool:=by
 induction l with
 | nil=>rfl
 | cons a l ih=>rw[List.flatMap_cons,ih];rfl
theorem qIv(l:List Bool)(i:Nat)(x:Bool):(l.flatMap qCR).set i (.bool x)=(l.set i x).flatMap qCR:=by rw[qDy,qDy,List.map_set]
theorem qIw(l:List Bool):(l.flatMap qCR).length=l.length:=by rw[qDy,List.length_map]
theorem bool_at{V:Mem}{s:Sl}{xs:List Bool}(h:qAc V s 1 (xs.map qCR)){i:Nat}{x:Bool}(hx:xs[i]?=some x):¬s.p=none/\(0:Int)<=(i:Int)/\(i:Int)<(s.n:Int)/\V.rowp s.p (i*1) 1=some [.bool x]:=by
 have hn:=h.n_eq
 have hl:=(List.getElem?_eq_some_iff.1 hx).1
 obtain⟨y,-,hy,-,-,h1,h2,h3⟩:=h.get (i:=i) (by omega)
 rw[hx]at hy;cases hy
 exact⟨h1,h2,by omega,h3⟩
theorem rows_same{V V':Mem}{g n c sz:Nat}{rows:List (List Value)}(h:qAc V ⟨some ⟨g,0,none⟩,n,c⟩ sz rows)(e:V' g=V g):qAc V' ⟨some ⟨g,0,none⟩,n,c⟩ sz rows:=⟨h.len,h.cap,h.fit,h.size,fun i r hr=>by
 obtain⟨a,h1,h2⟩:=h.at_ i r hr
 cases h1
 refine⟨_,rfl,?_⟩
 grind [Addr.add,Mem.row]⟩
section
variable{V0 V:Mem}{d:Ds}{m:Mm}{N:Nat}{xs:List Int}{l:Sl}
theorem madeB(n:Nat):(madeCells (Value.bool false).cells n).toList=(List.replicate n false).map Value.bool:=by
 have hc:(Value.bool false).cells=#[Value.bool false]:=by rfl
 rw[hc,List.map_replicate]
 unfold madeCells
 refine List.ext_getElem? fun j=>?_
 grind
theorem qIb{g n:Nat}(hg:V g=none)(hn:n<=2147483648):Sx.Own V (V.set g (.cells (madeCells (Value.bool false).cells (n*1)) 4 (0,0))) 4 1 ⟨some ⟨g,0,none⟩,n,n⟩ ((List.replicate n false).flatMap qCR):=by
 have e:(madeCells (Value.bool false).cells (n*1)).toList=(List.replicate n false).flatMap qCR:=by rw[Nat.mul_one,madeB,qDy]
 refine⟨Mem.sub_new hg _,by rw[qDy];simp,.inr ⟨g,_,rfl,hg,Mem.set_same _ _ _,Nat.le_refl _,by simp only[maxLen];omega,by rw[size_madeCells],?_⟩⟩
 grind [List.take_of_length_le,qDy]
theorem mk162{ty:Nat}{x y:Operand}{vals:Operand->Value}{n:Nat}(hx:vals x=.int .i64 n)(hy:vals y=.int .i64 n)(hn:n<=2147483648){q:Value->Mem->Prop}(hq:∀g,V g=none->q (.slice (sa g) n n) (V.set g (.cells (madeCells (Value.bool false).cells (n*1)) 4 (0,0)))):GenK Tryz.prog (.makeSlice 162 x y) ty vals V q :=
 GenK.make (z:=.bool false) (i:=ti 4) Tryz.underlying162 (by kernel_rfl) (by kernel_rfl) (by kernel_rfl) (of_decide_eq_true (by kernel_rfl)) hx hy hn hq
def selN(xs:List Int)(j:Nat):List Int:=((List.range j).map fun i:Nat=>(i:Int)+1).filter fun x=>decide (x ∉ xs)
theorem sel_succ(j:Nat):selN xs (j+1)=selN xs j++if ((j:Int)+1)∈xs then [] else [(j:Int)+1]:=by
 grind [selN,List.range_succ,Int]
theorem sel_len(j:Nat):(selN xs j).length<=j:=by
 grind [selN]
theorem rest_sel:qHi xs N=xs++selN xs N:=rfl
theorem push_blk{W V V1:Mem}{s s':Sl}{ys zs:List Value}(o:Sx.Own W V 3 1 s ys)(h:Sx.Own (V.but s) V1 3 1 s' zs){g:Nat}(hg:V g≠none)(hn:¬Blk s g):Sx.Own W V1 3 1 s' zs/\V1 g=V g/\¬Blk s' g:=by
 grind [qDK]
theorem c80(ho:Sx.Own V0 V 3 1 l (xs.flatMap qAe))(hx:Nds N xs)(hN:N<=4096)(hns:m.ns.n=N):Tri Tryz.prog 80 #[m.v,l.v] V fun e V'=>∃s:Sl,e=.returned s.v/\Sx.Own V0 V' 3 1 s ((qHi xs N).flatMap qAe):=by
 obtain⟨R,hR⟩:∃R:Ending->Mem->Prop,R=fun e V'=>∃s:Sl,e=.returned s.v/\Sx.Own V0 V' 3 1 s ((qHi xs N).flatMap qAe):=⟨_,rfl⟩
 rw[<- hR]
 refine x80 ?_
 unfold w80
 rw[hns]
 have hxl:=hx.len
 refine⟨⟨by omega,by omega⟩,mk162 (n:=N+1) rfl rfl (by omega) fun g hg=>⟨⟨some ⟨g,0,none⟩,N+1,N+1⟩,rfl,?_⟩⟩
 have C0:=qIb hg (n:=N+1) (by omega)
 obtain⟨V1,hV1⟩:∃V1,V1=V.set g (.cells (madeCells ((Value.bool false).cells) ((N+1)*1)) 4 (0,0)):=⟨_,rfl⟩
 rw[<- hV1]at C0 ⊢
 have hlr:=ho.rows (row:=qAe) (xs:=xs) (fun _=>rfl) (by decide)
 refine qIY xs.length (fun i V2=>∃F:List Bool,Sx.Own V V2 4 1 ⟨some ⟨g,0,none⟩,N+1,N+1⟩ (F.flatMap qCR)/\F.length=N+1/\∀j:Nat,j<N+1->F[j]?=some (decide ((j:Int)∈xs.take i))) ⟨_,C0,List.length_replicate,fun j hj=>by simp_all⟩ ?_
 rintro i V2 J hi ⟨F,hF,hFl,hFa⟩ hJ
 have hl2:=hlr.sub hF.sub
 refine⟨fun hlt=>?_,fun hge=>?_⟩
 ·obtain⟨x,hxm,hxi,-,hil,hp,hz,hrow⟩:=hl2.get hlt
  have hr:=hx.rng x hxm
  obtain⟨q,rfl⟩:∃q:Nat,x=(q:Int):=⟨x.toNat,by omega⟩
  refine⟨hp,hz,hlt,_,hrow,nn,by omega,by grind,?_⟩
  show StT (qAa (sa g) (q*1)) 0 _ _ _
  rw[Nat.mul_one]
  refine Own.store (s:=⟨some ⟨g,0,none⟩,N+1,N+1⟩) hF (i:=q) (by rw[qIw];omega) fun V3 hF3 _=>?_
  rw[qIv]at hF3
  refine⟨hl2.succ hlt,hJ hil _ ⟨_,hF3,by simp[hFl],fun j hj=>?_⟩⟩
  rw[qCn hxi]
  grind
 ·have hd:=(hl2.done hge).2
  rw[List.take_of_length_le hd]at hFa
  have hFr:=hF.rows (row:=qCR) (xs:=F) (fun _=>rfl) (by decide)
  have hgV:V2 g≠none:=by
   obtain⟨cur,hc⟩:=Own.some (c:=g) hF ⟨by simp,rfl⟩
   rw[hc];simp
  have hbl:¬Blk l g:=fun hb=>by
   grind [Own.some]
  refine⟨fun n ys V3=>∃(j:Nat) (s:Sl),ys=[s.v,.int .i64 ((j:Int)+1)]/\j<=N/\n=N-j/\Sx.Own V0 V3 3 1 s ((xs++selN xs j).flatMap qAe)/\V3 g=V2 g/\¬Blk s g,N,⟨0,l,rfl,Nat.zero_le _,rfl,by rw[show selN xs 0=[] from rfl,List.append_nil];exact Own.growS ho hF.sub,rfl,hbl⟩,?_⟩
  rintro n V3 v5 v6 ⟨j,s,hys,hj,rfl,os,hg3,hbs⟩ J hJ
  simp only[List.cons.injEq,Value.int.injEq,true_and,and_true]at hys
  obtain⟨h5,rfl⟩:=hys
  cases qBE _ _ h5
  have hF3:=rows_same hFr hg3
  refine⟨fun hlt=>?_,fun hge=>?_⟩
  ·have hlt:(j:Int)+1<((N+1:Nat):Int):=hlt
   obtain⟨b1,b2,b3,b4⟩:=bool_at hF3 (hFa (j+1) (by omega))
   have e:=sel_succ (xs:=xs) j
   have hsl:=sel_len (xs:=xs) j
   refine⟨b1,by omega,hlt,_,b4,fun c=>⟨⟨by omega,by omega⟩,hJ (N-(j+1)) _ _ (by omega) ⟨j+1,v5,rfl,by omega,rfl,?_,hg3,hbs⟩⟩,fun c b hb=>?_⟩
   ·simp_all
   ·have c:¬((j:Int)+1)∈xs:=fun h=>c (decide_eq_true h)
    refine oneG (row:=qAe) qFs (x:=(j:Int)+1) (s:=v5) os.but hb (by grind) rfl rfl (fun _=>rfl) fun s' V' o'=>?_
    obtain⟨k1,k2,k3⟩:=push_blk os o' (g:=g) (by grind) hbs
    refine⟨s',rfl,⟨by omega,by omega⟩,hJ (N-(j+1)) _ _ (by omega) ⟨j+1,s',rfl,by omega,rfl,?_,k2.trans hg3,k3⟩⟩
    simp_all
  ·have hge:¬(j:Int)+1<((N+1:Nat):Int):=hge
   obtain rfl:j=N:=by omega
   rw[hR,rest_sel]
   grind
end
end Go.Proofs
