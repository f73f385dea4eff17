/- Part 13: no statement of the seat is proved here. -/
import Derived.Test.YtcebnmieadkjfaaGreatDoorPg12
set_option linter.unusedVariables false
set_option linter.unusedSimpArgs false
open Go.Proofs.Tryz renaming prog->xG,f283->wM,underlying9->xo,f128->wN,isAgg3->wq,underlying3->wo,underlying274->wm,underlying215->wh,underlying144->wc,underlying145->wb
open Go.Sem renaming run_bind->zK,run_pure->zM
open Go.Result renaming andThen_ok->zL
open Array renaming getElem?_eq_some_iff->yA,forIn_toList->wk
open Go.Code renaming wpIn->wA
open List renaming getElem?_eq_some_iff->yv,lookup_cons->zc,drop_eq_getElem_cons->wS,zip_cons_cons->wB,map_toArray->y9,range->zB,getElem?_eq_getElem->yu,mem_of_getElem?->xM,any_eq_true->xZ,all_eq_true->z6,mem_cons_of_mem->za,mem_cons_self->zb,filter_cons->z8,mem_range->yY
open Go.Value renaming map->zz
open Go.IntKind renaming min->wT,max->wU,signed->zQ,bits->zR,wrap->xH,u64->wX
open BitVec renaming ofInt->wW,ofNat->wY,toNat_ofNat->wZ
open Nat renaming mul_le_mul->wz,log2->wx,two_pow_pos->wv,le_log2->wu,le_refl->yV
open Int renaming natCast_add->wy,toNat_natCast->xh
open Go.Ending renaming returned->xJ
open Go.Op renaming equalIn->zX
open Go.Instr renaming findAsking->wj,findNow->ym,checkKey->yh,sameBits->wi
open Bool renaming and_eq_true->zC,and_false->we
namespace Go.Proofs
open Go Go.Sx
attribute [local irreducible] Go.Sx.Tri
theorem cell3{b:Nat}{c:Option Addr}{mb:Option Nat}{body:Bool}{w:World}(h:w.heap[b]?=some (.cells #[.pointer c,.map mb,.bool body] 321 (0,0))):(loadVar 321 ⟨b,0,none⟩).run xG w=.ok (.agg #[.pointer c,.map mb,.bool body]) w:=
 GY (P:=xG) (t:=321) (cs:=.cons (.var .p 0) (.cons (.var .m 1) (.cons (.var .b 2) .nil))) (x:=.agg (.cons (.var .p 0) (.cons (.var .m 1) (.cons (.var .b 2) .nil)))) (ρ:=[.pointer c,.map mb,.bool body]) (β:=id) (o:=0) h (by kernel_rfl)
theorem results113{tmps:Array Value}{b:Nat}{c:Option Addr}{mb:Option Nat}{body:Bool}{w:World}(h6:tmps.getD 6 undef=pv b)(h:w.heap[b]?=some (.cells #[.pointer c,.map mb,.bool body] 321 (0,0))):
  (results wM tmps).run xG w=.ok (.agg #[.pointer c,.map mb,.bool body]) w:=by
 have t:wM.results=#[.cell 6 321]:=by kernel_rfl
 unfold results;rw[t];have e:asAddr (tmps.getD 6 undef)=pure ⟨b,0,none⟩:=by rw[h6];rfl
 simp only[List.mapM_toArray,List.mapM_cons,List.mapM_nil,zK,Sem.run_map,zM,zL,e,cell3 h];rfl
theorem Ko{V V1 V2 t:Mem}{w u z w3:World}{D:Nat}(j:Aq V w V1 u)(l:Aq V1 u V2 z)(n:u.heap.size<=D)(r:V2 D=none)(i:z.heap[D]?=some (.deferred (some [])))(y:Aq V2 z t w3):
  Aq V w t w3/\w.heap.size<=D/\w3.heap[D]?=some (.deferred (some []))/\t D=none:=by
 have x:=(yA.1 i).1;refine⟨(j.trans l).trans y,Nat.le_trans j.size n,(y.old D x r).trans i,?_⟩;cases q:t D with
 |none=>rfl
 |some o=>
  rcases y.dom D (by rw[q];simp)with h|h
  ·grind
  ·omega
theorem scopeC:FV:=by
 intro V c d body l ls q hl O;refine Mc (c:=Az wM) Tryz.func283 (by kernel_rfl) ?_;intro w hV;rw[show flat (Az wM)=c283a++([.block 0 (.rangeFunc (.tmp 24) #[25,26] ((AP (Az wM) [3,0,0,0]).getD 0 .skip) ((AP (Az wM) [3,0,0,1]).getD 0 .skip))]++(c283d++[.ret]))from by kernel_rfl];have hA:AO xG 63 c283a [(0,.pointer c),(1,.bool body),(2,.slice l.p l.n l.c)] [0,1,2,6,7,24] V λvs V1=>∃mb bx b6 b7,
   vs=[.pointer c,.bool body,.slice l.p l.n l.c,pv b6,pv b7,.func (.func 302) #[] #[pv bx]]/\SI V c body d mb bx b6 b7 (λ_=>none) V1:=by
  refine s283a ?_;unfold w283a;refine GenK.makeMap λmb j=>⟨some mb,rfl,q.nn,q.nn,?_,d.gs,?_,?_⟩
  ·obtain⟨cb,mt,mp,t,A,h2,h3,Z⟩:=q.at_;rw[A];simp[Aa]
  ·exact(q.sub (Mem.sub_new j _)).cell (i:=2) rfl
  refine Tri.mono c293 ?_;rintro _ V2 ⟨bx,I,rfl,rfl⟩;refine⟨.func (.func 302) #[] #[pv bx],rfl,rfl,λb6 M b7 F=>⟨_,rfl,mb,bx,b6,b7,rfl,?_⟩⟩;have n1:bx≠mb:=λe=>by grind[Mem.set_same]
  have n2:b6≠bx:=λe=>by grind[Mem.set_same]
  have n3:b7≠b6:=λe=>by grind[Mem.set_same]
  have s1:=Mem.sub_new j (.map #[] 0);have L:=Mem.sub_new I (cell (.slice d.gs.p d.gs.n d.gs.c) 23);have R:=Mem.sub_new M (.cells #[.pointer none,.map none,.bool false] 321 (0,0));have Y:=Mem.sub_new F (.cells #[.pointer c,.map (some mb),.bool body] 321 (0,0));refine⟨s1.trans (L.trans (R.trans Y)),j,?_,(A5.made V mb).sub (L.trans (R.trans Y)),(R.trans Y) _ _ Ao,Y _ _ Ao,Mem.set_same _ _ _⟩;cases hv:V b6 with
  |none=>rfl
  |some o=>have:=(s1.trans L) _ _ hv;simp_all
 refine hA.step hV (Hk (args:=[.pointer c,.bool body,.slice l.p l.n l.c]) (N:=63) (by simp)) ?_;rintro a1 w1 vs V1 hd1 u ⟨mb,bx,b6,b7,rfl,X⟩ a;show wA (Au none) 0 xG _ _ a1 w1;refine wpIn_block ?_;have B:=λfn lp D r=>it302 (V:=V1) (fn':=fn) (tmps:=a1.tmps) (ps:=#[25,26]) (assign:=(AP (Az wM) [3,0,0,0]).getD 0 .skip) (body:=(AP (Az wM) [3,0,0,1]).getD 0 .skip) (D:=D) (l:=lp) (bx:=bx) (s:=d.gs) (xs:=d.globals)
  (J:=λi V2=>SI V c body d mb bx b6 b7 (λk=>(BK (d.globals.drop (d.globals.length-i)) k).map Value.string) V2) rfl (λi V2 Q _=>⟨Q.bx,q.ok.globals.sub Q.sub⟩) (λk x hx V2 Q C w2 E=>by
   have hk:=(yv.1 hx).1;refine Kk (N:=63) (insA:=[(7,pv b7),(26,Fld.v x)]) (outsA:=[7,9]) C E (by rw[I4];simpa using u.1) ?_ (scopeAssign x) (λvs K S=>?_)
   ·intro s v z;rw[I4];simp only[zc]at z;split at z
    ·rename_i e;simp only[beq_iff_eq]at e;subst e;cases z;rw[I5 (by decide),I5 (by decide)];exact u.get rfl
    ·split at z
     ·rename_i e;simp only[beq_iff_eq]at e;subst e;cases z;exact getD_same (by simp[u.1])
     ·cases z
   ·obtain⟨b,hb,e2,rfl⟩:=S;refine(scopeRound (l:=l) Q x K b hb e2).mono λ_ V4 Z=>Z.cg λy=>?_;rw[show d.globals.length-(d.globals.length-1-k)=k+1 by omega,show d.globals.length-(d.globals.length-k)=k by omega];have e3:d.globals.drop k=x::d.globals.drop (k+1):=by
     grind[wS,yv]
    rw[e3,Kn];grind)
  (by simpa [BK]using X) r
 refine Kj (Φ:=λV2=>SI V c body d mb bx b6 b7 (λk=>(BK d.globals k).map Value.string) V2) a.le (u.get (s:=24) rfl) Tryz.call302 (λfn lp D r=>Tri.mono (B fn lp D r) λe V' h=>?_) ?_;·simp_all
 ·intro D V2 W hD H T hW U;show Cq none 0 xG _ (c283d++[.ret]) _ W;refine(scopeTail U hl O).step H.le ⟨u.1,λs v z=>u.2 s v ?_⟩ ?_
  ·simp only[wB,zc]at z⊢
   repeat' (split at z<;>first|exact z|skip)
   simp_all
  ·rintro a3 w3 vs K hd3 hH3 ⟨rfl,A,h2,h3,Z⟩ hF3;show wA (Au none) 0 xG .ret _ a3 w3;refine wpIn_ret ?_;obtain⟨g1,g2,g3,g4⟩:=Ko a H hD T hW hF3;refine⟨.inr rfl,[D],?_,by simp,K,g1,λD' hD'=>?_,_,λw4 hw4=>results113 (hH3.get rfl) (hw4 _ _ Z),mb,rfl,A,h2,h3⟩;·simp_all
   simp_all
structure NI (V:Mem)(d:Ds)(cb mt mp p1 p3:Nat)(f g:KB->Option Value)(V1:Mem):Prop where
 sub:V.sub V1
 nt:V mt=none
 np:V mp=none
 ne:mt≠mp
 ck:V1 cb=some (.cells (d.row++[zz (some mt),zz (some mp)]).toArray 260 (0,0))
 b1:V1 p1=some (.cells d.row.toArray 30 (0,0))
 b3:V1 p3=some (cell (pv cb) 209)
 mapT:A5 V1 mt f
 mapP:A5 V1 mp g
section
variable{V V1:Mem}{d:Ds}{cb mt mp p1 p3:Nat}{f g f' g':KB->Option Value}
theorem NI.fresh(h:NI V d cb mt mp p1 p3 f g V1){b:Nat}(u:V1 b=none)(o:Obj):NI V d cb mt mp p1 p3 f g (V1.set b o):=
 have t:=Mem.sub_new u o
 ⟨h.sub.trans t,h.nt,h.np,h.ne,t _ _ h.ck,t _ _ h.b1,t _ _ h.b3,h.mapT.sub t,h.mapP.sub t⟩
theorem FZ{V:Mem}{b m:Nat}{c:Array Value}{t:Nat}{fr:Nat×Nat}{f:KB->Option Value}(h:V b=some (.cells c t fr))(hm:A5 V m f):b≠m:=λe=>by
 obtain⟨es,u,hm,-,-⟩:=hm.at_;simp_all
theorem NI.upT(h:NI V d cb mt mp p1 p3 f g V1){o:Obj}(t:A5 (V1.set mt o) mt f'):NI V d cb mt mp p1 p3 f' g (V1.set mt o):=
 ⟨h.sub.set h.nt o,h.nt,h.np,h.ne,by rw[Mem.set_ne (FZ h.ck h.mapT)];exact h.ck,by rw[Mem.set_ne (FZ h.b1 h.mapT)];exact h.b1,by rw[Mem.set_ne (FZ h.b3 h.mapT)];exact h.b3,t,h.mapP.set (Ne.symm h.ne)⟩
theorem NI.upP(h:NI V d cb mt mp p1 p3 f g V1){o:Obj}(t:A5 (V1.set mp o) mp g'):NI V d cb mt mp p1 p3 f g' (V1.set mp o):=
 ⟨h.sub.set h.np o,h.nt,h.np,h.ne,by rw[Mem.set_ne (FZ h.ck h.mapP)];exact h.ck,by rw[Mem.set_ne (FZ h.b1 h.mapP)];exact h.b1,by rw[Mem.set_ne (FZ h.b3 h.mapP)];exact h.b3,h.mapT.set h.ne,t⟩
theorem NI.cg(h:NI V d cb mt mp p1 p3 f g V1)(t:∀k,f k=f' k)(u:∀k,g k=g' k):NI V d cb mt mp p1 p3 f' g' V1:=⟨h.sub,h.nt,h.np,h.ne,h.ck,h.b1,h.b3,h.mapT.congr t,h.mapP.congr u⟩
theorem newRoundT(h:NI V d cb mt mp p1 p3 f g V1){bx:Nat}{v:Value}{ty:Nat}(w:V1 bx=some (cell v ty))(x:Ty)(V2:Mem)(b:Nat)(z:V1 b=none)(j:V2=V1.set b (.cells x.row.toArray 112 (0,0))):
  AO xG 38 c128c [(3,pv p3),(5,pv b)] [] V2 λ_ y=>NI V d cb mt mp p1 p3 (λk=>if k=x.name then some x.v else f k) g y/\y bx=some (cell v ty):=by
 subst j;have u:=h.fresh z (.cells x.row.toArray 112 (0,0));have t:=Mem.sub_new z (.cells x.row.toArray 112 (0,0)) _ _ w;refine s128c ?_;unfold w128c;refine⟨_,Ax u.b3,by simp,by simp,some mt,An u.ck 8 1 (by simp[Ds.row]),by simp,x.name,An Ao 0 1 (by simp[Ty.row]),x.name,x.fs,An Ao 0 2 (by simp[Ty.row]),?_⟩;exact Cg.str Tryz.underlying257 xo u.mapT λo i=>⟨_,rfl,u.upT i,by rw[Mem.set_ne (FZ t u.mapT)];exact t⟩
theorem newRoundP(h:NI V d cb mt mp p1 p3 f g V1){bx:Nat}{v:Value}{ty:Nat}(w:V1 bx=some (cell v ty))(x:Pr)(V2:Mem)(b:Nat)(z:V1 b=none)(j:V2=V1.set b (.cells x.row.toArray 74 (0,0))):
  AO xG 38 c128f [(3,pv p3),(7,pv b)] [] V2 λ_ y=>NI V d cb mt mp p1 p3 f (λk=>if k=x.name then some x.v else g k) y/\y bx=some (cell v ty):=by
 subst j;have u:=h.fresh z (.cells x.row.toArray 74 (0,0));have t:=Mem.sub_new z (.cells x.row.toArray 74 (0,0)) _ _ w;refine s128f ?_;unfold w128f;refine⟨_,Ax u.b3,by simp,by simp,some mp,An u.ck 9 1 (by simp[Ds.row]),by simp,x.name,An Ao 0 1 (by simp[Pr.row]),x.name,x.ps,x.result,x.ls,x.bs,An Ao 0 5 (by simp[Pr.row]),?_⟩;exact Cg.str Tryz.underlying258 xo u.mapP λo i=>⟨_,rfl,u.upP i,by rw[Mem.set_ne (FZ t u.mapP)];exact t⟩
theorem newAssignT(x:Ty):AO xG 38 c128b [(3,pv p3),(17,Ty.v x)] [3,5] V1 λvs V2=>∃b,V1 b=none/\V2=V1.set b (.cells x.row.toArray 112 (0,0))/\vs=[pv p3,pv b]:=by
 refine s128b (b:=x.name) (c:=x.fs) ?_;unfold w128b;exact λb t=>⟨_,rfl,b,t,rfl,rfl⟩
theorem newAssignP(x:Pr):AO xG 38 c128e [(3,pv p3),(29,Pr.v x)] [3,7] V1 λvs V2=>∃b,V1 b=none/\V2=V1.set b (.cells x.row.toArray 74 (0,0))/\vs=[pv p3,pv b]:=by
 refine s128e (b:=x.name) (c:=x.ps) (d:=x.result) (g:=x.ls) (i:=x.bs) ?_;unfold w128e;exact λb t=>⟨_,rfl,b,t,rfl,rfl⟩
end
theorem I6{N:Nat}{a:Act}{p q r:Nat}{l:List (Nat×Value)}{j u z:Value}(y:Has N a l)(i:l.lookup r=some j)(n:r≠p)(o:r≠q)(x:q<N):Has N {tmps:=(#[p,q].zip #[u,z]).foldl (λt (p,v)=>t.setIfInBounds p v) a.tmps,defers:=[]} [(r,j),(q,z)]:=by
 refine⟨by rw[I4];simpa using y.1,λs v w=>?_⟩;rw[I4];simp only[zc]at w;split at w
 ·rename_i e;simp only[beq_iff_eq]at e;subst e;cases w;rw[I5 o,I5 n];exact y.get i
 ·split at w
  ·rename_i e;simp only[beq_iff_eq]at e;subst e;cases w;exact getD_same (by simp[y.1,x])
  ·cases w
theorem mark_keep{V V1:Mem}{w u:World}{D:Nat}(h:Aq V w V1 u)(y:V D=none)(z:w.heap[D]?=some (.deferred (some []))):u.heap[D]?=some (.deferred (some []))/\V1 D=none:=by
 have t:=(yA.1 z).1;refine⟨(h.old D t y).trans z,?_⟩;cases x:V1 D with
 |none=>rfl
 |some o=>
  rcases h.dom D (by rw[x];simp)with h|h
  ·grind
  ·omega
theorem find_drop{α:Type}{l:List α}{nm:α->KB}{vv:α->Value}{k:Nat}{x:α}(u:l[k]?=some x)(y:KB):
  (if y=nm x then some (vv x)else((l.drop (l.length-(l.length-1-k))).find? λt=>decide (nm t=y)).map vv)=((l.drop (l.length-(l.length-k))).find? λt=>decide (nm t=y)).map vv:=by
 have w:=(yv.1 u).1;rw[show l.length-(l.length-1-k)=k+1 by omega,show l.length-(l.length-k)=k by omega];have z:l.drop k=x::l.drop (k+1):=by
  grind[wS,yv]
 grind
theorem newC:NewC:=by
 intro V d hd;refine Mc (c:=Az wN) Tryz.func128 (by kernel_rfl) ?_;intro w hV;rw[show flat (Az wN)=c128a++([.block 0 (.rangeFunc (.tmp 15) #[16,17] ((AP (Az wN) [3,0,0,0]).getD 0 .skip) ((AP (Az wN) [3,0,0,1]).getD 0 .skip))]++
  (c128d++([.block 2 (.rangeFunc (.tmp 27) #[28,29] ((AP (Az wN) [5,0,0,0]).getD 0 .skip) ((AP (Az wN) [5,0,0,1]).getD 0 .skip))]++(c128g++[.ret]))))from by kernel_rfl]
 have hA:AO xG 38 c128a [(0,d.v)] [1,3,15] V λvs V1=>∃cb mt mp p1 p3 bx,
   vs=[pv p1,pv p3,.func (.func 228) #[] #[pv bx]]/\NI V d cb mt mp p1 p3 (λ_=>none) (λ_=>none) V1/\V1 bx=some (cell (.slice d.ts.p d.ts.n d.ts.c) 22):=by
  refine s128a (a:=d.name) (b:=d.ts) (c:=d.gs) (d:=d.ps) (g:=d.ms) (i:=d.is) (j:=d.qs) (k:=d.bs) ?_;unfold w128a;refine GenK.makeMap λmt C=>⟨some mt,rfl,GenK.makeMap λmp hmp=>⟨some mp,rfl,?_⟩⟩;refine Tri.mono c179 ?_;rintro _ V2 ⟨bx,M,rfl,rfl⟩;refine⟨.func (.func 228) #[] #[pv bx],rfl,rfl,λp1 hp1 cb hcb p3 hp3=>⟨_,rfl,cb,mt,mp,p1,p3,bx,rfl,?_,?_⟩⟩;all_goals
   have s1:=Mem.sub_new C (.map #[] 0);have s2:=Mem.sub_new hmp (.map #[] 0);have s3:=Mem.sub_new M (cell (.slice d.ts.p d.ts.n d.ts.c) 22);have s4:=Mem.sub_new hp1 (.cells d.row.toArray 30 (0,0));have E:=Mem.sub_new hcb (.cells (d.row++[zz (some mt),zz (some mp)]).toArray 260 (0,0));have B:=Mem.sub_new hp3 (cell (pv cb) 209)
  ·have nmp:mt≠mp:=λe=>by grind[Mem.set_same]
   refine⟨s1.trans (s2.trans (s3.trans (s4.trans (E.trans B)))),C,?_,nmp,B _ _ Ao,(E.trans B) _ _ Ao,Mem.set_same _ _ _,(A5.made V mt).sub (s2.trans (s3.trans (s4.trans (E.trans B)))),(A5.made (V.set mt (.map #[] 0)) mp).sub (s3.trans (s4.trans (E.trans B)))⟩;cases hv:V mp with
   |none=>rfl
   |some o=>have:=s1 _ _ hv;simp_all
  ·exact(s4.trans (E.trans B)) _ _ Ao
 refine hA.step hV (Hk (args:=[d.v]) (N:=38) (by simp)) ?_;rintro a1 w1 vs V1 hd1 Y ⟨cb,mt,mp,p1,p3,bx,rfl,hN1,K⟩ S;show wA (Au none) 0 xG _ _ a1 w1;refine wpIn_block ?_;have hit:=λfn lp D H=>it228 (V:=V1) (fn':=fn) (tmps:=a1.tmps) (ps:=#[16,17]) (assign:=(AP (Az wN) [3,0,0,0]).getD 0 .skip) (body:=(AP (Az wN) [3,0,0,1]).getD 0 .skip) (D:=D) (l:=lp) (bx:=bx) (s:=d.ts) (xs:=d.types)
  (J:=λi V2=>NI V d cb mt mp p1 p3 (λy=>((d.types.drop (d.types.length-i)).find? λt=>decide (t.name=y)).map Ty.v) (λ_=>none) V2/\V2 bx=some (cell (.slice d.ts.p d.ts.n d.ts.c) 22)) rfl (λi V2 Q _=>⟨Q.2,hd.types.sub Q.1.sub⟩) (λk x hx V2 Q F w2 L=>by
   refine Kk (N:=38) (insA:=[(3,pv p3),(17,Ty.v x)]) (outsA:=[3,5]) F L (I6 (u:=.int .i64 k) (z:=Ty.v x) (p:=16) (q:=17) (r:=3) Y rfl (by decide) (by decide) (by decide)).1 (I6 (p:=16) (q:=17) (r:=3) Y rfl (by decide) (by decide) (by decide)).2 (newAssignT x) (λvs A R=>?_);obtain⟨b,hb,e2,rfl⟩:=R;exact(newRoundT Q.1 Q.2 x A b hb e2).mono λ_ V4 I=>⟨I.1.cg (find_drop (nm:=Ty.name) (vv:=Ty.v) hx) λ_=>rfl,I.2⟩)
  ⟨by simpa using hN1,K⟩ H
 refine Kj (Φ:=λV2=>NI V d cb mt mp p1 p3 (λy=>(tyOf d y).map Ty.v) (λ_=>none) V2) S.le (Y.get (s:=15) rfl) Tryz.call228 (λfn lp D H=>Tri.mono (hit fn lp D H) λe V' h=>?_) ?_
 ·obtain⟨h1,V2,h2,h3,I⟩:=h;exact⟨h1,V2,h2,h3,by simpa [tyOf]using I.1⟩
 intro D V2 W hD T hn2 hW U;show Cq none 0 xG _ (c128d++_) _ W;have hS:AO xG 38 c128d [(1,pv p1),(3,pv p3)] [3,27] V2 λvs A=>∃bx,vs=[pv p3,.func (.func 229) #[] #[pv bx]]/\NI V d cb mt mp p1 p3 (λy=>(tyOf d y).map Ty.v) (λ_=>none) A/\A bx=some (cell (.slice d.ps.p d.ps.n d.ps.c) 24):=by
  refine s128d ?_;unfold w128d;refine⟨by simp,d.ps,An U.b1 3 1 (by simp[Ds.row]),?_⟩;refine Tri.mono c180 ?_;rintro _ A ⟨bx,M,rfl,rfl⟩;exact⟨.func (.func 229) #[] #[pv bx],rfl,rfl,_,rfl,bx,rfl,U.fresh M _,Mem.set_same _ _ _⟩
 refine hS.step T.le ⟨Y.1,λs v hs=>Y.2 s v ?_⟩ ?_;·grind[wB]
 rintro a3 w3 vs A hd3 O ⟨bx2,rfl,hN3,hbx3⟩ hF3;show wA (Au none) 0 xG _ _ a3 w3;refine wpIn_block ?_;have hit2:=λfn lp D H=>it229 (V:=A) (fn':=fn) (tmps:=a3.tmps) (ps:=#[28,29]) (assign:=(AP (Az wN) [5,0,0,0]).getD 0 .skip) (body:=(AP (Az wN) [5,0,0,1]).getD 0 .skip) (D:=D) (l:=lp) (bx:=bx2) (s:=d.ps) (xs:=d.procs)
  (J:=λi V2=>NI V d cb mt mp p1 p3 (λy=>(tyOf d y).map Ty.v) (λy=>((d.procs.drop (d.procs.length-i)).find? λt=>decide (t.name=y)).map Pr.v) V2/\V2 bx2=some (cell (.slice d.ps.p d.ps.n d.ps.c) 24)) rfl (λi V2 Q _=>⟨Q.2,hd.procs.sub Q.1.sub⟩) (λk x hx V2 Q F w2 L=>by
   refine Kk (N:=38) (insA:=[(3,pv p3),(29,Pr.v x)]) (outsA:=[3,7]) F L (I6 (u:=.int .i64 k) (z:=Pr.v x) (p:=28) (q:=29) (r:=3) O rfl (by decide) (by decide) (by decide)).1 (I6 (p:=28) (q:=29) (r:=3) O rfl (by decide) (by decide) (by decide)).2 (newAssignP x) (λvs A R=>?_);obtain⟨b,hb,e2,rfl⟩:=R;exact(newRoundP Q.1 Q.2 x A b hb e2).mono λ_ V4 I=>⟨I.1.cg (λ_=>rfl) (find_drop (nm:=Pr.name) (vv:=Pr.v) hx),I.2⟩)
  ⟨by simpa using hN3,hbx3⟩ H
 refine Kj (Φ:=λV2=>NI V d cb mt mp p1 p3 (λy=>(tyOf d y).map Ty.v) (λy=>(BU d y).map Pr.v) V2) hF3.le (O.get (s:=27) rfl) Tryz.call229 (λfn lp D H=>Tri.mono (hit2 fn lp D H) λe V' h=>?_) ?_
 ·obtain⟨h1,V2,h2,h3,I⟩:=h;exact⟨h1,V2,h2,h3,by simpa [BU]using I.1⟩
 intro D2 V4 W4 hD2 X hn4 hW4 Z;show Cq none 0 xG _ (c128g++_) _ W4;have hS2:AO xG 38 c128g [(3,pv p3)] [2] V4 λvs V5=>V5=V4/\vs=[pv cb]:=by
  refine s128g ?_;unfold w128g;exact⟨_,Ax Z.b3,_,rfl,rfl,rfl⟩
 refine hS2.step X.le ⟨O.1,λs v hs=>O.2 s v ?_⟩ ?_;·grind[wB]
 rintro a5 w5 vs V5 hd5 hH5 ⟨rfl,rfl⟩ hF5;show wA (Au none) 0 xG .ret _ a5 w5;refine wpIn_ret ?_;obtain⟨g1,g2,g3,g4⟩:=Ko S T hD hn2 hW hF3;obtain⟨k1,k2,k3,k4⟩:=Ko g1 X hD2 hn4 hW4 hF5;obtain⟨m1,m2⟩:=mark_keep (X.trans hF5) g4 g3;have hDlt:D<w3.heap.size:=(yA.1 g3).1;refine⟨.inr rfl,[D2,D],?_,by simp;omega,_,k1,λD' hD'=>?_,_,λw6 hw6=>results_tmp (t:=2) (by kernel_rfl) _ _ _,some ⟨cb,0,none⟩,by rw[hH5.get rfl],Z.sub,?_⟩;·simp_all
 ·grind
 ·exact⟨⟨cb,mt,mp,260,rfl,Z.ck,Z.mapT,Z.mapP⟩,hd.sub Z.sub⟩
section
variable{P:Program}{V:Mem}{ty:Nat}{vals:Operand->Value}
theorem GenK.shr{t u:TypeId}{x:Operand}{k z:IntKind}{n c:Int}(y:vals x=.int k n)(j:vals (.const (.int z c))=.int z c)(i:¬c<0){q:Value->Mem->Prop}(l:q (.int k (n.fdiv (2^(min c.toNat k.bits)))) V):GenK P (.binOp .shr t x (.const (.int z c)) u) ty vals V q:=by
 intro w hw;refine⟨_,w,V,?_,Aq.refl hw,l⟩;unfold execOp;simp[y,j,binOp,Op.shift,i,eqGuard]
theorem GenK.max2{a b:Operand}{ts:Array TypeId}{n1 n2:Int}(t:vals a=.int .i64 n1)(u:vals b=.int .i64 n2){q:Value->Mem->Prop}(z:q (.int .i64 (if n1<n2 then n2 else n1)) V):GenK P (.call {callee:=.builtin .max,args:=#[a,b],argTypes:=ts}) ty vals V q:=by
 intro w hw;refine⟨_,w,V,?_,Aq.refl hw,z⟩;unfold execOp;simp only[resolve,invoke,builtin,zK,zM,zL,y9,List.map_cons,List.map_nil,t,u];rfl
theorem GenK.min2{a b:Operand}{ts:Array TypeId}{n1 n2:Int}(t:vals a=.int .i64 n1)(u:vals b=.int .i64 n2){q:Value->Mem->Prop}(z:q (.int .i64 (if n2<n1 then n2 else n1)) V):GenK P (.call {callee:=.builtin .min,args:=#[a,b],argTypes:=ts}) ty vals V q:=by
 intro w hw;refine⟨_,w,V,?_,Aq.refl hw,z⟩;unfold execOp;simp only[resolve,invoke,builtin,zK,zM,zL,y9,List.map_cons,List.map_nil,t,u];rfl
theorem GenK.iface{t:TypeId}{ts:Array Field}{x:Operand}{v:Value}(u:P.underlying t=some (.struct ts))(z:vals x=v){q:Value->Mem->Prop}(y:q (.iface t v) V):GenK P (.makeInterface t x) ty vals V q:=by
 intro w hw;refine⟨_,w,V,?_,Aq.refl hw,y⟩;unfold execOp;simp[z,Instr.makeInterface,run_underlying u,zK]
end
def fltV(e:Int):Value:=.iface 219 (.agg #[.int .i64 e])
theorem GenK.fault{ty:Nat}{vals:Operand->Value}{V:Mem}{x:Operand}{e:Int}(t:vals x=.agg #[.int .i64 e]){q:Value->Mem->Prop}(u:q (fltV e) V):GenK xG (.makeInterface 219 x) ty vals V q:=
 GenK.iface Tryz.underlying219 t u
def fltC(e:Int):Ending:=.panicked [{v:=fltV e,recovered:=false}]
theorem GenK.pan{ty:Nat}{vals:Operand->Value}{V:Mem}{x:Operand}{e:Int}(u:vals x=.agg #[.int .i64 e]){R:Ending->Mem->Prop}(h:R (fltC e) V):
  GenK xG (.makeInterface 219 x) ty vals V λy V1=>∃v,K.r.ok v/\y=v/\∃t x,K.cast .r v=.iface t x/\R (.panicked [{v:=.iface t x,recovered:=false}]) V1:=
 GenK.fault u ⟨fltV e,(rfl:K.cast .r (fltV e)=fltV e),rfl,_,_,rfl,h⟩
def resR:Rs->Ending
 |.ok v=>.returned (.int .i64 v)
 |.bad e=>fltC e
def RB(r:Rs)(V:Mem):Ending->Mem->Prop:=λe V'=>e=resR r/\V'=V
section
variable{V:Mem}
theorem c139{n:Int}:Tri xG 139 #[.int .i64 n] V (RB (BH n) V):=by
 refine x139 ?_;have bad:¬(-1099511627776<=n/\n<=1099511627776)->RB (BH n) V (fltC 5) V:=λh=>by unfold BH;rw[if_neg h];exact⟨rfl,rfl⟩
 refine⟨λh=>GenK.pan rfl ((bad (by omega))),λt=>⟨λh=>GenK.pan rfl ((bad (by omega))),λu=>?_⟩⟩;unfold BH;rw[if_pos (by omega)];exact⟨rfl,rfl⟩
theorem c203{b:Bool}:PP 203 [.bool b] V (.int .i64 (Dq b)):=by
 refine x203 ?_;refine⟨λh=>?_,λh=>?_⟩;·rw[show b=true from h];exact⟨rfl,rfl⟩
 ·rw[show b=false by simpa using h];exact⟨rfl,rfl⟩
theorem c254{n:Int}(h:-1099511627776<=n/\n<=1099511627776):PP 254 [.int .i64 n] V (.int .u64 (n.natAbs:Int)):=by
 refine x254 ?_;refine⟨⟨by omega,by omega⟩,GenK.max2 rfl rfl ⟨_,rfl,?_⟩⟩;have e:(if n<0-n then 0-n else n)=(n.natAbs:Int):=by split<;>omega
 rw[e];exact⟨K.inR_iff.2 (by simp[wT,wU,zQ,zR];omega),rfl,rfl⟩
theorem I7{n:Nat}{k:Nat}:((n:Int)).fdiv (2^k)=((n/2^k:Nat):Int):=by
 grind
theorem wrapU(n:Nat):xH .u64 (n:Int)=((n % 18446744073709551616:Nat):Int):=by
 rfl
theorem maskU(n:Nat):Go.bits .and .u64 (n:Int) 4294967295=((n % 4294967296:Nat):Int):=by
 unfold Go.bits;have e:(wW wX.bits (n:Int) &&& wW wX.bits 4294967295).toNat=n % 4294967296:=by
  show(wW 64 (n:Int) &&& wW 64 4294967295).toNat=n % 4294967296;have t:wW 64 (n:Int)=wY 64 n:=by simp
  have u:wW 64 4294967295=wY 64 4294967295:=by decide
  rw[t,u,BitVec.toNat_and,wZ,wZ,show 4294967295 % 2^64=2^32-1 by decide,Nat.and_two_pow_sub_one_eq_mod];omega
 grind[wrapU]
theorem Hl(n:Nat)(h:n<18446744073709551616):K.inR .u64 (n:Int):=K.inR_iff.2 (by simp[wT,wU,zQ,zR];omega)
theorem c255{a b:Nat}(Z:a<=1099511627776)(Y:b<=1099511627776):PP 255 [.int .u64 a,.int .u64 b] V (.tuple #[.int .u64 ((a*b/18446744073709551616:Nat):Int),.int .u64 ((a*b % 18446744073709551616:Nat):Int)]):=by
 refine x255 ?_;obtain⟨u,w,i,l,W,Q⟩:∃u w:Nat,a % 4294967296=u/\a/4294967296=w/\u<4294967296/\w<=256:=⟨_,_,rfl,rfl,by omega,by omega⟩;obtain⟨t,z,r,q,O,A⟩:∃t z:Nat,b % 4294967296=t/\b/4294967296=z/\t<4294967296/\z<=256:=⟨_,_,rfl,rfl,by omega,by omega⟩;have o:u*t<=4294967295*4294967295:=wz (by omega) (by omega);have c:w*t<=256*4294967295:=wz (by omega) (by omega);have s:u*z<=4294967295*256:=wz (by omega) (by omega);have H:w*z<=256*256:=wz (by omega) (by omega);have x:a*b=w*z*18446744073709551616+(w*t+u*z)*4294967296+u*t:=by
  have J:a=w*4294967296+u:=by omega
  have N:b=z*4294967296+t:=by omega
  rw[J,N];grind
 have j:=maskU a;have mb:=maskU b;rw[i]at j;rw[r]at mb;have shr:∀(n:Nat),(n:Int).fdiv (2^(min (32:Int).toNat wX.bits))=((n/4294967296:Nat):Int):=λn=>by
  rw[show min (32:Int).toNat wX.bits=32 from rfl,I7]
 have y:∀{n:Nat},n<18446744073709551616->xH .u64 (n:Int)=(n:Int):=λ{n} h=>by rw[wrapU,Nat.mod_eq_of_lt h]
 refine GenK.shr rfl rfl (by decide) ⟨_,rfl,GenK.shr rfl rfl (by decide) ⟨_,rfl,?_⟩⟩;rw[shr,shr,j,mb,l,q];simp only[<-Int.natCast_mul];rw[y (n:=u*t) (by omega),y (n:=w*t) (by omega),y (n:=u*z) (by omega),y (n:=w*z) (by omega),wrapU];refine GenK.shr rfl rfl (by decide) ⟨_,rfl,?_⟩;rw[shr,<-wy,maskU];refine⟨Hl _ (by omega),GenK.shr rfl rfl (by decide) ⟨_,rfl,?_⟩⟩;rw[shr,<-wy,<-wy];refine⟨Hl _ (by omega),Hl _ (by omega),GenK.shr rfl rfl (by decide) ⟨_,rfl,?_⟩⟩;rw[shr,<-wy];refine⟨Hl _ (by omega),?_,rfl⟩;have e:w*z+(w*t+u*t/4294967296)/4294967296+((w*t+u*t/4294967296) % 4294967296+u*z)/4294967296=a*b/18446744073709551616:=by
  rw[x];omega
 rw[e]
theorem mul_abs{a b:Int}:(a.natAbs*b.natAbs:Nat)=(a*b).natAbs:=(Int.natAbs_mul a b).symm
theorem c202{a b:Int}(t:-1099511627776<=a/\a<=1099511627776)(u:-1099511627776<=b/\b<=1099511627776):Tri xG 202 #[.int .i64 a,.int .i64 b] V (RB (BH (a*b)) V):=by
 refine x202 ?_;have bad:¬(-1099511627776<=a*b/\a*b<=1099511627776)->RB (BH (a*b)) V (fltC 5) V:=λh=>by unfold BH;rw[if_neg h];exact⟨rfl,rfl⟩
 have hm:=mul_abs (a:=a) (b:=b);refine(c254 t).call ⟨_,rfl,(c254 u).call ⟨_,rfl,(c255 (a:=a.natAbs) (b:=b.natAbs) (by omega) (by omega)).call ⟨_,_,rfl,?_⟩⟩⟩;rw[hm];refine⟨λw=>⟨λz=>GenK.pan rfl ((bad (by omega))),λz=>⟨⟨by omega,by omega⟩,?_⟩⟩,λw=>GenK.pan rfl ((bad (by omega)))⟩;unfold BH;rw[if_pos (by omega)];exact⟨rfl,rfl⟩
theorem c141{op a b:Int}(z:-1099511627776<=a/\a<=1099511627776)(y:-1099511627776<=b/\b<=1099511627776):Tri xG 141 #[.int .i64 op,.int .i64 a,.int .i64 b] V (RB (A4 op a b) V):=by
 refine x141 ?_;unfold A4;have out:∀{r:Rs}{e:Ending}{V':Mem},RB r V e V'->(∃v,e=.returned (.int .i64 v)/\RB r V (.returned (.int .i64 v)) V')∨∃x,e=.panicked x/\RB r V e V':=by
  rintro r e V' ⟨rfl,rfl⟩;cases r with
  |ok v=>exact .inl ⟨v,rfl,rfl,rfl⟩
  |bad e=>exact .inr ⟨_,rfl,rfl,rfl⟩
 have tr:∀{b:Bool}{r:Rs},r=.ok (Dq b)->Tri xG 203 #[.bool b] V λe V'=>∃v,e=.returned (.int .i64 v)/\RB r V (.returned (.int .i64 v)) V':=λh=>c203.call ⟨_,rfl,by rw[h];exact⟨rfl,rfl⟩⟩;refine⟨λh=>?_,λj=>?_⟩;·rw[if_pos h];exact⟨⟨by omega,by omega⟩,Tri.mono c139 λ_ _=>out⟩
 rw[if_neg (show ¬op=9 from j)];refine⟨λh=>?_,λi=>?_⟩;·rw[if_pos h];exact⟨⟨by omega,by omega⟩,Tri.mono c139 λ_ _=>out⟩
 rw[if_neg (show ¬op=10 from i)];refine⟨λh=>?_,λl=>?_⟩;·rw[if_pos h];exact Tri.mono (c202 z y) λ_ _=>out
 rw[if_neg (show ¬op=11 from l)];refine⟨λh=>?_,λn=>?_⟩;·rw[if_pos h];exact GenK.max2 rfl rfl ⟨_,rfl,rfl,rfl⟩
 rw[if_neg (show ¬op=22 from n)];refine⟨λh=>?_,λq=>?_⟩;·rw[if_pos h];exact GenK.min2 rfl rfl ⟨_,rfl,rfl,rfl⟩
 rw[if_neg (show ¬op=23 from q)];refine⟨λh=>?_,λh6=>?_⟩;·rw[if_pos h];exact tr rfl
 rw[if_neg (show ¬op=14 from h6)];refine⟨λh=>?_,λh7=>?_⟩;·rw[if_pos h];exact tr rfl
 rw[if_neg (show ¬op=15 from h7)];refine⟨λh=>?_,λh8=>?_⟩;·rw[if_pos h];exact tr rfl
 rw[if_neg (show ¬op=16 from h8)];refine⟨λh=>?_,λo=>?_⟩;·rw[if_pos h];exact tr rfl
 rw[if_neg (show ¬op=17 from o)];refine⟨λh=>?_,λt=>?_⟩;·rw[if_pos h];exact GenK.pan rfl ⟨rfl,rfl⟩
 rw[if_neg (show ¬b=0 from t)];refine⟨λh=>?_,λw=>?_⟩
 ·rw[if_pos h];have c:=tdiv_in (b:=b) z;have hw:xH .i64 (a.tdiv b)=a.tdiv b:=FL ⟨by simp[wT,zQ,zR];omega,by simp[wU,zQ,zR];omega⟩;have u:Rs.ok (a.tdiv b)=BH (a.tdiv b):=by unfold BH;rw[if_pos c]
  rw[hw,u];exact⟨t,Tri.mono c139 λ_ _=>out⟩
 ·rw[if_neg (show ¬op=12 from w)];exact⟨t,rfl,rfl⟩
end
abbrev GA:KB:=Ab [0,1,2,2,3,3,3,3,4,4,4,4,4,4,4,4,5,5,5,5,5,5,5,5,5,5,5,5,5,5,5,5,6,6,6,6,6,6,6,6,6,6,6,6,6,6,6,6,6,6,6,6,6,6,6,6,6,6,6,6,6,6,6,6,7,7,7,7,7,7,7,7,7,7,7,7,7,7,7,7,7,7,7,7,7,7,7,7,7,7,7,7,7,7,7,7,7,7,7,7,7,7,7,7,7,7,7,7,7,7,7,7,7,7,7,7,7,7,7,7,7,7,7,7,7,7,7,7,8,8,8,8,8,8,8,8,8,8,8,8,8,8,8,8,8,8,8,8,8,8,8,8,8,8,8,8,8,8,8,8,8,8,8,8,8,8,8,8,8,8,8,8,8,8,8,8,8,8,8,8,8,8,8,8,8,8,8,8,8,8,8,8,8,8,8,8,8,8,8,8,8,8,8,8,8,8,8,8,8,8,8,8,8,8,8,8,8,8,8,8,8,8,8,8,8,8,8,8,8,8,8,8,8,8,8,8,8,8,8,8,8,8,8,8,8,8,8,8,8,8,8,8,8,8,8,8]
def CK(n:Nat):Int:=if n=0 then 0 else(wx n:Int)+1
theorem lenTab_at{n:Nat}(h:n<256):A0 GA (n:Int)=CK n:=by
 have:((zB 256).all λn=>decide (A0 GA (n:Int)=CK n))=true:=by kernel_rfl
 simp_all
theorem wrap8{k:Nat}(h:k<256):xH .u8 (k:Int)=k:=by
 rw[show xH .u8 (k:Int)=(k:Int) % 256 by simp[xH,zQ,zR]];omega
theorem log2_shift{n k:Nat}(h:2^k<=n):wx n=k+wx (n/2^k):=by
 have u:0<2^k:=wv k;have w:n/2^k≠0:=by
  simp_all
 have t:n≠0:=by omega
 have key:∀j,j<=wx (n/2^k)↔k+j<=wx n:=λj=>by
  rw[wu w,wu t,Nat.le_div_iff_mul_le u,<-Nat.pow_add,Nat.add_comm]
 have z:=(key (wx (n/2^k))).1 (yV _);have y:k<=wx n:=(wu t).2 h;have x:=(key (wx n-k)).2 (by omega);omega
theorem H1{n k:Nat}(h:2^k<=n):CK n=k+CK (n/2^k):=by
 have u:0<2^k:=wv k;have t:n/2^k≠0:=by
  simp_all
 unfold CK;rw[if_neg (by omega),if_neg t,log2_shift h];omega
theorem lenN_small{n:Nat}(h:n<256):0<=CK n/\CK n<=8:=by
 unfold CK;split;·omega
 ·rename_i t;have:wx n<8:=(Nat.log2_lt t).2 h;omega
section
variable{V:Mem}
theorem c201{n:Nat}(i:n<=1099511627776):PP 201 [.int .u64 n] V (.int .i64 (CK n)):=by
 refine x201 ?_;have shr:∀(k:Nat)(c:Int),min c.toNat wX.bits=k->(n:Int).fdiv (2^(min c.toNat wX.bits))=((n/2^k:Nat):Int):=λk c h=>by rw[h,I7]
 have t:∀(k c:Nat),k<256->c<=64->CK n=c+CK k->∀v:Int,v=(k:Int)->∀z:Int,z=(c:Int)->(0<=xH .u8 v/\xH .u8 v<(GA.size:Int))/\IR (A0 GA (xH .u8 v))/\IR (z+A0 GA (xH .u8 v))/\(rV (uI (z+A0 GA (xH .u8 v)))=xJ (.int .i64 (CK n))/\V=V):=by
  rintro k c u w y _ rfl _ rfl;have l:=lenN_small u;have x:GA.size=256:=by kernel_rfl
  rw[wrap8 u,lenTab_at u,x,y];exact⟨⟨by omega,by omega⟩,⟨by omega,by omega⟩,⟨by omega,by omega⟩,rfl,rfl⟩
 refine⟨λu=>GenK.shr rfl rfl (by decide) ⟨_,rfl,?_⟩,λu=>⟨λw=>GenK.shr rfl rfl (by decide) ⟨_,rfl,⟨by omega,by omega⟩,?_⟩,λw=>⟨λy=>GenK.shr rfl rfl (by decide) ⟨_,rfl,⟨by omega,by omega⟩,?_⟩,λy=>?_⟩⟩⟩
 ·rw[shr 32 _ rfl];have e:=H1 (n:=n) (k:=32) (by omega);have r:n/2^32<=256:=by omega
  refine⟨λh=>by omega,λ_=>⟨λw=>GenK.shr rfl rfl (by decide) ⟨_,rfl,⟨by omega,by omega⟩,?_⟩,λw=>t (n/2^32) 32 (by omega) (by omega) (by omega) _ rfl _ rfl⟩⟩;have j:=H1 (n:=n/2^32) (k:=8) (by omega);have:((n/2^32:Nat):Int).fdiv (2^(min (8:Int).toNat wX.bits))=((n/2^32/2^8:Nat):Int):=by
   rw[show min (8:Int).toNat wX.bits=8 from rfl,I7]
  rw[this];exact t (n/2^32/2^8) 40 (by omega) (by omega) (by omega) _ rfl _ rfl
 ·rw[shr 16 _ rfl];have e:=H1 (n:=n) (k:=16) (by omega);refine⟨λh=>GenK.shr rfl rfl (by decide) ⟨_,rfl,⟨by omega,by omega⟩,?_⟩,λh=>t (n/2^16) 16 (by omega) (by omega) (by omega) _ rfl _ rfl⟩;have j:=H1 (n:=n/2^16) (k:=8) (by omega);have:((n/2^16:Nat):Int).fdiv (2^(min (8:Int).toNat wX.bits))=((n/2^16/2^8:Nat):Int):=by
   rw[show min (8:Int).toNat wX.bits=8 from rfl,I7]
  rw[this];exact t (n/2^16/2^8) 24 (by omega) (by omega) (by omega) _ rfl _ rfl
 ·rw[shr 8 _ rfl];have e:=H1 (n:=n) (k:=8) (by omega);exact t (n/2^8) 8 (by omega) (by omega) (by omega) _ rfl _ rfl
 ·exact t n 0 (by omega) (by omega) (by omega) _ rfl _ rfl
theorem c140{n:Nat}(t:n<=1099511627776):PP 140 [.int .u64 n] V (.int .i64 (CK n)):=by
 refine x140 ?_;exact(c201 t).call ⟨_,rfl,rfl,rfl⟩
end
theorem lenN_log{n:Nat}:max 0 (CK n-1)=(wx n:Int):=by
 unfold CK;split;·rename_i h;subst h;rfl
 ·omega
end Go.Proofs
namespace Go.Proofs
open Go Go.Sx
def CU(k:Int×Int):Value:=.agg #[.int .i64 k.1,.int .i64 k.2]
theorem encK_inj(a b:Int×Int)(h:CU a=CU b):a=b:=by
 obtain⟨a1,a2⟩:=a;obtain⟨b1,b2⟩:=b;unfold CU at h;simpa using h
theorem Pb(a b:Int×Int)(w:World):(Op.equal 274 (CU a) (CU b)).run xG w=.ok (decide (a=b)) w:=by
 obtain⟨a1,a2⟩:=a;obtain⟨b1,b2⟩:=b;have t:xG.stoodInHeld 274=false:=by kernel_rfl
 have p0:∀(x y:Int),(part 3 #[.int .i64 x,.int .i64 y] 0).run xG w=.ok (.int .i64 x) w:=λx y=>by simp[part,zK,wq]
 have p1:∀(x y:Int),(part 3 #[.int .i64 x,.int .i64 y] 1).run xG w=.ok (.int .i64 y) w:=λx y=>by simp[part,zK,wq]
 have e:∀(n:Nat)(x y:Int),(zX (n+1) 3 (.int .i64 x) (.int .i64 y)).run xG w=.ok (x==y) w:=λn x y=>by
  rw[zX];simp[zK,run_underlying wo]
 rw[EX,zX];simp only[zK,run_underlying wm,zL,CU,run_program,t];by_cases u:a1=b1<;>by_cases z:a2=b2<;>simp[<-wk,zK,p0,p1,e 9998,u,z]
open Classical in
theorem Md(k:Int×Int)(w:World):∀(es:List MapEntry)(i:Nat),(∀e∈es,∃a,e.key=CU a)->(wj 274 (CU k) es i).run xG w=.ok ((es.findIdx? λe=>decide (e.key=CU k)).bind λj=>(es[j]?).map λe=>(i+j,e.val)) w
 |[],i,_=>by rw[wj];rfl
 |e::es,i,h=>by
  obtain⟨a,z⟩:=h e (by simp);have y:=Md k w es (i+1) λx l=>h x (by simp[l]);rw[wj];simp only[zK,z,Pb,zL,List.findIdx?_cons];by_cases t:k=a;·subst t;simp
  ·have u:¬CU a=CU k:=λe=>t (encK_inj _ _ e).symm;simp only[t,u,decide_false,Bool.false_eq_true,if_false,y];cases n:List.findIdx? (λe:MapEntry=>decide (e.key=CU k)) es with
   |none=>simp
   |some j=>simp[Nat.add_assoc,Nat.add_comm 1 j]
theorem findNow_key(k:Value):∀(es:List MapEntry) fs (i:Nat),ym (.struct fs) k es i=some none/\es=[]∨ym (.struct fs) k es i=none
 |[],fs,i=>.inl ⟨rfl,rfl⟩
 |e::es,fs,i=>.inr (by rw[ym];simp[Instr.sameNow])
open Classical in
theorem keyOf:KeyOf xG 274 CU where
 inj:=encK_inj
 find:=λa es w h=>by
  unfold Instr.findKey;simp only[zK,run_underlying wm,zL];rcases findNow_key (CU a) es _ 0 with⟨t,rfl⟩|t;·rw[t];rfl
  ·rw[t];have:=Md a w es 0 h;simp only[Nat.zero_add]at this;exact this
 check:=λb a w=>by
  have p0:∀(x y:Int),(part 3 #[.int .i64 x,.int .i64 y] 0).run xG w=.ok (.int .i64 x) w:=λx y=>by simp[part,zK,wq]
  have p1:∀(x y:Int),(part 3 #[.int .i64 x,.int .i64 y] 1).run xG w=.ok (.int .i64 y) w:=λx y=>by simp[part,zK,wq]
  have c:∀(n:Nat)(x:Int),(yh b (n+1) 3 (.int .i64 x)).run xG w=.ok () w:=λn x=>by
   rw[yh];simp[zK,run_underlying wo]
  rw[show(10000:Nat)=9999+1 from rfl,yh];simp[zK,run_underlying wm,CU,<-wk,p0,p1,c 9998]
 stays:=λa w=>by
  have h:wi 10000 (CU a) (CU a)=true:=by
   unfold CU;rw[show(10000:Nat)=9998+1+1 from rfl];simp[wi]
  unfold Instr.keyThatStays;rw[if_pos h];rfl
end Go.Proofs
namespace Go.Proofs
open Go Go.Sx
attribute [local irreducible] Go.Sx.Tri
theorem DR{V:Mem}{b:Nat}{c:Array Value}{t:Nat}{fr:Nat×Nat}(h:V b=some (.cells c t fr))(j off n:Nat)(u:j+off+n<=c.size):V.rowp (Aa (sa b) j) off n=some ((c.toList.drop (j+off)).take n):=by
 have:=An h (j+off) n u;rw[<-this];show V.row (((⟨b,0,none⟩:Addr).add j).add off) n=V.row ((⟨b,0,none⟩:Addr).add (j+off)) n;rw[add_add]
theorem Kp:Hh 80 Fld.row Fld.v 2:=HX LA
theorem Kq:Hh 40 Iv.row Iv.v 6:=HX LB
def mrow(d:Ds)(m:Mm)(kb bb:Nat):List Value:=[Go.Sx.vS d.name,d.ts.v,d.gs.v,d.ps.v,d.ms.v,d.is.v,d.qs.v,d.bs.v,m.gs.v,m.ns.v,.map (some kb),.map (some bb)]
structure Bw (V0:Mem)(d:Ds)(m:Mm)(p kb bb:Nat)(V:Mem)(kn:Int×Int->Option Int)(bz:Int×Int->Bool):Prop where
 sub:V0.sub V
 at_:V p=some (.cells (mrow d m kb bb).toArray 147 (0,0))
 known:BP CU V kb λk=>(kn k).map (Value.int .i64)
 busy:BP CU V bb λk=>if bz k then some (.bool true)else none
structure CV (V0:Mem)(d:Ds)(m:Mm)(p kb bb:Nat):Prop where
 good:Am d m
 ds:Ds.Ok V0 d
 mm:Mm.Ok V0 m
 p0:V0 p=none
 k0:V0 kb=none
 b0:V0 bb=none
 pk:p≠kb
 pb:p≠bb
 kb:kb≠bb
def CL(kb bb:Nat)(V V':Mem):Prop:=∀c o,c≠kb->c≠bb->V c=some o->V' c=some o
theorem CL.refl{kb bb:Nat}(V:Mem):CL kb bb V V:=λ_ _ _ _ h=>h
theorem CL.trans{kb bb:Nat}{V V' t:Mem}(h:CL kb bb V V')(k:CL kb bb V' t):CL kb bb V t:=λc o u w z=>k c o u w (h c o u w z)
theorem CL.of_sub{kb bb:Nat}{V V':Mem}(h:V.sub V'):CL kb bb V V':=λc o _ _ t=>h c o t
section
variable{V0 V V':Mem}{d:Ds}{m:Mm}{p kb bb:Nat}{kn:Int×Int->Option Int}{bz:Int×Int->Bool}
theorem Bw.grow(h:Bw V0 d m p kb bb V kn bz)(t:V.sub V'):Bw V0 d m p kb bb V' kn bz:=⟨h.sub.trans t,t _ _ h.at_,h.known.sub t,h.busy.sub t⟩
theorem Bw.cell(h:Bw V0 d m p kb bb V kn bz)(i n:Nat)(hi:i+n<=12):V.rowp (sa p) i n=some (((mrow d m kb bb).drop i).take n):=An h.at_ i n hi
theorem Bw.cell'(h:Bw V0 d m p kb bb V kn bz)(j i n:Nat)(hi:j+i+n<=12):V.rowp (Aa (sa p) j) i n=some (((mrow d m kb bb).drop (j+i)).take n):=DR h.at_ j i n hi
theorem nn{p:Addr}:¬(some p:Option Addr)=none:=nofun
theorem Bc{p:Addr}{n:Nat}:¬Aa (some p) n=none:=nofun
theorem Pc(S:CV V0 d m p kb bb)(h:Bw V0 d m p kb bb V kn bz){x:Int}:PP 39 [pv p,.int .i64 x] V (.bool (decide (0<=x/\x<=(m.nodes.length:Int)))):=by
 refine NM ?_;have u:=S.mm.nodes.n_eq;refine⟨λt=>⟨nn,nn,Bc,m.ns,h.cell 9 1 (by decide),?_⟩,λt=>?_⟩
 ·have:(decide (x<=(m.ns.n:Int)))=decide (0<=x/\x<=(m.nodes.length:Int)):=by rw[decide_eq_decide];omega
  rw[this];exact⟨rfl,rfl⟩
 ·rw[decide_eq_false (λk=>t k.1)];exact⟨rfl,rfl⟩
theorem c199{b t:Nat}{s:KB}(u:V b=some (cell (.string s) t)){x:Ms}:PP 199 [x.v,pv b] V (.bool (decide (x.name=s))):=by
 refine x199 ?_;exact⟨_,Ax u,rfl,rfl⟩
theorem c138(S:CV V0 d m p kb bb)(h:Bw V0 d m p kb bb V kn bz){s:KB}:PP 138 [pv p,.string s] V (.int .i64 (mIdx d s)):=by
 refine A1.mk (x138 ?_);refine⟨nn,nn,Bc,d.ms,h.cell 4 1 (by decide),λb w=>?_⟩;have u:=Mem.sub_new w (cell (.string s) 9);exact(idxMs (first:=[]) (caps:=[pv b]) (S.ds.sub (h.sub.trans u)).measures Tryz.call199 (λt=>decide (t.name=s)) (λx _=>c199 Ao)).call ⟨_,rfl,rfl,u⟩
theorem c196{b t:Nat}{s:KB}(u:V b=some (cell (.string s) t)){x:Fld}:PP 196 [x.v,pv b] V (.bool (decide (x.name=s))):=by
 refine x196 ?_;exact⟨_,Ax u,rfl,rfl⟩
theorem c253{b t:Nat}{s:KB}(u:V b=some (cell (.string s) t)){x:Fld}:PP 253 [x.v,pv b] V (.bool (decide (x.name=s))):=by
 refine x253 ?_;exact⟨_,Ax u,rfl,rfl⟩
theorem c252{i:Int}:PP 252 [.int .i64 i] V (.tuple #[.int .i64 (if i<0 then 0 else i),.int .i64 (if i<0 then 12 else 0)]):=by
 refine x252 ?_;refine⟨λh=>?_,λh=>?_⟩;·rw[if_pos h,if_pos h];exact⟨rfl,rfl⟩
 ·rw[if_neg h,if_neg h];exact⟨rfl,rfl⟩
theorem c197{t:Ty}(h:Ty.Ok V t){s:KB}:PP 197 [t.v,.string s] V (.tuple #[.int .i64 (if BL t.fields s<0 then 0 else BL t.fields s),.int .i64 (if BL t.fields s<0 then 12 else 0)]):=by
 refine A1.mk (x197 ?_);intro b w;have u:=Mem.sub_new w (cell (.string s) 9);refine(Kp (first:=[]) (caps:=[pv b]) (h.sub u).fields Tryz.call253 (λt=>decide (t.name=s)) (λx _=>c253 Ao)).call ⟨_,rfl,c252.call ⟨_,_,rfl,rfl,u⟩⟩
theorem c135(S:CV V0 d m p kb bb)(h:Bw V0 d m p kb bb V kn bz){T s t:KB}{x:Int}(c:This d m T x)(a:Bn (AQ d T).vars s=t)(z:t≠sE):PP 135 [pv p,.string s,.int .i64 x] V (.int .i64 (varV d m x s)):=by
 refine A1.mk (x135 ?_);refine⟨λj=>?_,λj=>⟨nn,nn,Bc,m.gs,h.cell 8 1 (by decide),nn,nn,Bc,d.gs,h.cell 2 1 (by decide),λb e=>?_⟩⟩;·unfold varV;rw[if_pos (show s=CI from j)];exact⟨rfl,Mem.sub.refl _⟩
 have l:=Mem.sub_new e (cell (.string s) 9);have hv:=h.sub.trans l;refine(Kp (first:=[]) (caps:=[pv b]) (S.ds.sub hv).globals Tryz.call196 (λt=>decide (t.name=s)) (λx _=>c196 Ao)).call ⟨_,rfl,(h.grow l).cell' 8 0 1 (by decide),Bc,nn,nn,?_⟩;rcases var_ok S.good c a z with⟨g,-⟩|⟨-,i,f,v,n,g2,g3,g4,g5,-⟩;·exact absurd g j
 have n:Ci (λt:Fld=>decide (t.name=s)) d.globals=(i:Int):=n;rw[n];have N:=(yv.1 g3).1;have w:=(S.mm.sub hv).globals;have Z:=w.n_eq;obtain⟨y,H,o,-,J,r,q,u⟩:=w.get (i:=i) (by omega);rw[g3]at o;cases o;refine⟨r,q,by omega,_,u,?_,l⟩;show xJ (.int .i64 v)=_;rw[g5]
theorem c136(S:CV V0 d m p kb bb)(h:Bw V0 d m p kb bb V kn bz){t s ty:KB}(F:C2 d t s=(ty,0)){a:Int}(L:AX d m t a):Tri xG 136 #[pv p,.int .i64 a,.string s] V (RB (fldV d m a s) V):=by
 refine Tri.mono (x136 (R:=RB (fldV d m a s) V) ?_) λ_ _ h=>h;refine⟨λe=>GenK.pan rfl ?_,λe=>?_⟩;·unfold fldV;rw[if_pos e];exact⟨rfl,rfl⟩
 obtain⟨n,i,j,X,f,v,b1,b2,b3,b4,b5,b6,b7,b8,b9,c,-,H,-⟩:=fld_ok S.good F L e;obtain⟨q,rfl⟩:∃q:Nat,a=(q:Int)+1:=⟨(a-1).toNat,by omega⟩;rw[show((q:Int)+1-1)=(q:Int)by omega]at*
 have w:=S.mm.sub h.sub;have x:=S.ds.sub h.sub;have B:=w.nodes.n_eq;obtain⟨y,J,I,-,C,N,Z,l⟩:=w.nodes.get (i:=q) (by omega);rw[xh]at b1;rw[b1]at I;cases I;have D:=x.types.n_eq;have E:=(yv.1 b6).1;obtain⟨z,Y,M,-,K,W,Q,r⟩:=x.types.get (i:=j) (by omega);rw[b6]at M;cases M;have T:IR ((q:Int)):=⟨by omega,by have:=(w.nodes.succ (i:=q) (by omega)).2;omega⟩;refine⟨nn,nn,Bc,m.ns,h.cell 9 1 (by decide),T,N,Z,by omega,_,_,l,nn,nn,Bc,d.ts,h.cell 1 1 (by decide),?_⟩;rw[b5];refine⟨W,Q,by omega,_,_,r,(c197 (x.typesOk X Y)).call ⟨_,_,rfl,?_⟩⟩;rw[b8,if_neg (by omega)];have hv:=(w.nodesOk n J).rows;have U:=hv.n_eq;have hil:=(yv.1 c).1;obtain⟨u,hum,hu,-,hl4,O,A,o⟩:=hv.get (i:=i) (by omega);rw[c]at hu;cases hu;refine⟨O,A,by omega,_,o,?_,rfl⟩;rw[H];rfl
def typV(d:Ds)(m:Mm)(x:Int):KB:=if x=0 then sE else((m.nodes[(x-1).toNat]?).bind λn=>(d.types[n.ty.toNat]?).map (·.name)).getD sE
theorem node_at(G:Am d m){x:Int}(i:1<=x)(l:x<=(m.nodes.length:Int)):∃(q j:Nat)(n:Nd)(u:Ty),x=(q:Int)+1/\m.nodes[q]?=some n/\n.ty=(j:Int)/\d.types[j]?=some u/\typV d m x=u.name:=by
 obtain⟨q,rfl⟩:∃q:Nat,x=(q:Int)+1:=⟨(x-1).toNat,by omega⟩;have t:m.nodes[q]?=some (m.nodes[q]'(by omega)):=yu _;obtain⟨-,-,p3,-⟩:=BX G.mem;obtain⟨y,c2⟩:=of_decide_eq_true (p3 _ (xM t));obtain⟨j,w⟩:∃j:Nat,(m.nodes[q]'(by omega)).ty=(j:Int):=⟨_,(Int.toNat_of_nonneg y).symm⟩;have z:d.types[j]?=some (d.types[j]'(by omega)):=yu _;refine⟨q,j,_,_,rfl,t,w,z,?_⟩;unfold typV;rw[if_neg (by omega),show((q:Int)+1-1).toNat=q by omega,t,Option.bind_some,w,xh,z];rfl
theorem Me(S:CV V0 d m p kb bb)(h:Bw V0 d m p kb bb V kn bz){x:Int}(J:0<=x/\x<=(m.nodes.length:Int)):PP 35 [pv p,.int .i64 x] V (.string (typV d m x)):=by
 refine NH ?_;refine⟨λc=>?_,λc=>?_⟩;·unfold typV;rw[if_pos c];exact⟨rfl,rfl⟩
 have c:¬x=0:=c;obtain⟨q,j,n,M,rfl,b1,b5,b6,b7⟩:=node_at S.good (x:=x) (by omega) J.2;rw[show((q:Int)+1-1)=(q:Int)by omega];have t:=S.mm.sub h.sub;have l:=S.ds.sub h.sub;have N:=t.nodes.n_eq;obtain⟨y,Z,s,-,Y,r,a,u⟩:=t.nodes.get (i:=q) (by omega);rw[b1]at s;cases s;have W:=l.types.n_eq;have Q:=(yv.1 b6).1;obtain⟨z,O,H,-,A,o,e,w⟩:=l.types.get (i:=j) (by omega);rw[b6]at H;cases H;have I:IR ((q:Int)):=⟨by omega,by have:=(t.nodes.succ (i:=q) (by omega)).2;omega⟩;refine⟨nn,nn,Bc,d.ts,h.cell 1 1 (by decide),nn,nn,Bc,m.ns,h.cell 9 1 (by decide),I,r,a,by omega,Ah r,_,_,u,?_⟩;rw[b5];refine⟨o,e,by omega,Ah o,_,_,w,?_,rfl⟩;rw[b7]
theorem this_typ(G:Am d m){x:Int}(l:0<=x)(i:x<=(m.nodes.length:Int)):This d m (typV d m x) x:=by
 by_cases z:x=0;·left;unfold typV;rw[if_pos z];exact⟨rfl,z⟩
 ·right;obtain⟨q,j,n,y,rfl,b1,b5,b6,b7⟩:=node_at G (x:=x) (by omega) i;have w:=xM b6;have t:BE d y.name=true:=xZ.2 ⟨y,w,decide_eq_true rfl⟩;have u:=FX G.valid t;refine⟨b7▸t,z,?_⟩;rw[b7];unfold AR;rw[if_neg (DQ u kwInt),if_neg (DQ u kwBool)];refine decide_eq_true (.inr ⟨by omega,by omega,?_⟩);rw[show((q:Int)+1-1).toNat=q by omega,b1];show some n.ty=_;rw[b5,(E8 (BX G.mem).1).2.1 j y b6]
end
theorem g250:IdxP 250 Nd.row Nd.v 2:=by
 intro V l xs g first w q St o t c s
 refine x250 (a:=l) (b:=.func (.func g) first.toArray w.toArray) ?_;refine AK xs.length St c ?_;intro i b V1 J O r H;have h:=t i V1 r;refine⟨λu=>?_,λy=>?_⟩
 ·obtain⟨x,hm,N,A,Z,j,Y,z⟩:=h.get u;refine⟨j,Y,u,_,_,z,g,_,_,rfl,q,Tri.mono (s i x V1 N r) ?_⟩;rintro e V2 ⟨b,rfl,W,Q⟩;exact⟨b,rfl,λn=>.inl ⟨i,rfl,W n⟩,λn=>⟨h.succ u,H Z _ _ (Q (by simpa using n))⟩⟩
 ·have e:i=xs.length:=by have:=(h.done y).2;omega
  simp_all
theorem g191:ConP 191 Nd.row Nd.v 2:=conG g250 x191
theorem c191:ConC 191 Nd.row Nd.v 2:=conC g191
theorem H2(w:World):(zeroValue 3).run xG w=.ok (.int .i64 0) w:=by kernel_rfl
def pmap(d:Ds)(i:Nat)(k:KB):Option Value:=if 0<=Bt d k/\Bt d k<(i:Int)then some (.int .i64 (Bt d k))else none
def tmap(d:Ds)(k:KB):Option Value:=if BE d k=true then some (.int .i64 (Bt d k))else none
section
variable{V:Mem}{d:Ds}{m:Mm}{b:Nat}
theorem idxT_le{i:Nat}{x:Ty}(u:d.types[i]?=some x):0<=Bt d x.name/\Bt d x.name<=(i:Int):=by
 unfold Bt;rcases Cw (λt:Ty=>decide (t.name=x.name)) d.types with⟨-,-,h⟩|⟨j,y,w,r,-,q,-,-,-,z⟩;·grind
 ·rw[w];refine⟨by omega,?_⟩;have l:¬i<j:=λn=>by
   have:=List.any_eq_false.1 z x (List.mem_take_iff_getElem.2 ⟨i,by omega,(yv.1 u).2⟩);simp_all
  omega
theorem idxT_at{k:KB}{i:Nat}(h:Bt d k=(i:Int)):∃x,d.types[i]?=some x/\x.name=k:=by
 unfold Bt at h;rcases Cw (λt:Ty=>decide (t.name=k)) d.types with⟨u,-⟩|⟨j,y,u,w,-,z,l,-⟩;·omega
 grind
theorem pmap_all{k:KB}(i:Nat)(hi:d.types.length<=i):pmap d i k=tmap d k:=by
 unfold pmap tmap;rcases Ka d k with⟨t,u⟩|⟨t,u⟩;·grind
 ·obtain⟨j,w⟩:∃j:Nat,Bt d k=(j:Int):=⟨(Bt d k).toNat,by omega⟩;obtain⟨x,z,-⟩:=idxT_at w;grind
theorem c188{s:KB}:PP 188 [.string s] V (.bool (decide (s=Ai)||decide (s=Ar))):=by
 refine x188 ?_;refine⟨λh=>⟨by grind[Ai],rfl⟩,λh=>⟨by rw[decide_eq_false (show ¬s=Ai from h)];rfl,rfl⟩⟩
theorem c189{s:KB}(h:A5 V b (tmap d)):PP 189 [.map (some b),.string s] V (.bool (BE d s)):=by
 refine x189 ?_;refine Bu.str wh xo H2 h ?_;unfold tmap;cases t:BE d s with
 |true=>simp_all
 |false=>simp_all
theorem c187{p t:Nat}(u:V p=some (cell (.map (some b)) t))(h:A5 V b (tmap d)){f:Fld}:PP 187 [f.v,pv p] V (.bool (!known d f.ty)):=by
 refine x187 ?_;refine c188.call ⟨_,rfl,λw=>?_,λw=>⟨some b,Ax u,(c189 h).call ⟨_,rfl,?_,rfl⟩⟩⟩;·unfold known;grind
 grind[known,Ai,Ar]
theorem c186{p t:Nat}(u:V p=some (cell (.map (some b)) t))(h:A5 V b (tmap d)){l:Sl}{xs:List Fld}(w:Ad V l 2 (xs.map Fld.row)):PP 186 [l.v,pv p] V (.bool (DF d xs)):=by
 refine x186 ?_;refine(HR (first:=[]) (caps:=[pv p]) w Tryz.call187 (λf=>!known d f.ty) (λf _=>c187 u h)).call ⟨_,rfl,?_,rfl⟩;grind[DF]
theorem c190{p q t u:Nat}(w:V p=some (cell (.map (some b)) t))(z:V q=some (cell (.func (.func 186) #[] #[pv p]) u))(h:A5 V b (tmap d)){y:Ty}(x:Ty.Ok V y):
  PP 190 [y.v,pv q] V (.bool (!DF d y.fields)):=by
 refine x190 ?_;exact⟨.func (.func 186) #[] #[pv p],rfl,Ax z,186,_,_,rfl,Tryz.call186,(c186 w h x.fields).callv (first:=[]) (caps:=[pv p]) ⟨_,rfl,rfl,rfl⟩⟩
theorem GB:hasT d=true↔A7 d=true/\DF d d.globals=true/\(∀(i:Nat)(x:Ty),d.types[i]?=some x->Bt d x.name=(i:Int))/\∀x∈d.types,DF d x.fields=true:=by
 unfold hasT;rw[zC,zC,FW,and_assoc];refine and_congr_right λ_=>and_congr_right λ_=>⟨λh=>⟨λi x t=>?_,λx t=>?_⟩,λh i x t=>?_⟩;·grind
 ·obtain⟨i,u,rfl⟩:=List.mem_iff_getElem.1 t;have:=h i _ (yu u);simp_all
 grind
def GC(V':Mem)(d:Ds)(mo:Option Nat):Prop:=(hasT d=true/\∃b,mo=some b/\A5 V' b (tmap d))∨(¬hasT d=true/\mo=none)
theorem c130[Tab V](h:Ds.Ok V d):Tri xG 130 #[d.v] V λr V'=>∃a,r=.returned (.map a)/\V.sub V'/\GC V' d a:=by
 refine x130 ?_;have W:∀{V1:Mem},V.sub V1->¬hasT d=true->(∃a,xJ (.map none)=.returned (.map a)/\V.sub V1/\GC V1 d a):=λu k=>⟨none,rfl,u,.inr ⟨k,rfl⟩⟩;refine(c127 h).call ⟨_,rfl,λhv=>?_,λhv=>W (Mem.sub.refl _) λk=>hv (GB.1 k).1⟩;refine GenK.makeMap λb B=>⟨some b,rfl,?_⟩;have u:∀o,V.sub (V.set b o):=λo=>Mem.sub_new B _;refine AK (mk:=.map) (b0:=none) d.types.length (λi V1=>(∃o,V1=V.set b o)/\A5 V1 b (pmap d i)/\∀(j:Nat)(x:Ty),j<i->d.types[j]?=some x->Bt d x.name=(j:Int)) ⟨⟨_,rfl⟩,(A5.made V b).congr λk=>?_,λ_ _ h=>absurd h (Nat.not_lt_zero _)⟩ ?_;·grind[pmap]
 rintro i b1 _ J hi ⟨⟨o,rfl⟩,hm,C⟩ D;have t:=h.sub (u o);refine⟨λw=>?_,λO=>?_⟩
 ·obtain⟨x,E,Q,K,S,A,T,s⟩:=t.types.get w;have U:=idxT_le Q;refine⟨A,T,w,_,_,s,Bu.str wh xo H2 hm ?_⟩;by_cases hlo:Bt d x.name<(i:Int)
  ·have e:pmap d i x.name=some (.int .i64 (Bt d x.name)):=by grind[pmap]
   rw[e];refine⟨_,_,rfl,λ_=>W (u o) λk=>?_,λk=>absurd rfl k⟩;grind[GB]
  ·have e:pmap d i x.name=none:=by grind[pmap]
   rw[e];refine⟨0,false,rfl,(λk=>by cases k),λ_=>Cg.str wh xo hm λo2 I=>⟨t.types.succ w,D S _ _ ⟨⟨o2,by rw[Mem.set_set]⟩,I.congr λk=>?_,λj y hj R=>?_⟩⟩⟩
   ·by_cases X:k=x.name
    ·subst X;rw[if_pos rfl];grind[pmap,Bt]
    ·rw[if_neg X];unfold pmap;by_cases hki:Bt d k=(i:Int);·grind[idxT_at,absurd]
     grind
   grind
 ·have H:=(t.types.done O).2;have M:A5 (V.set b o) b (tmap d):=hm.congr λk=>pmap_all i H;have z:∀(j:Nat)(x:Ty),d.types[j]?=some x->Bt d x.name=(j:Int):=λj x Q=>C j x (by grind) Q;intro p A;have N:=Mem.sub_new A (cell (.map (some b)) 215);have l:=Mem.set_same (V.set b o) p (cell (.map (some b)) 215);have n:=M.sub N;have Z:=t.sub N;refine(c186 l n Z.globals).call ⟨_,rfl,λF=>λq hq=>?_,λF=>W ((u o).trans N) λk=>F (GB.1 k).2.1⟩;have c:=Mem.sub_new hq (cell (.func (.func 186) #[] #[pv p]) 184);have L:=Mem.set_same ((V.set b o).set p (cell (.map (some b)) 215)) q (cell (.func (.func 186) #[] #[pv p]) 184);have Y:=Z.sub c;refine(c175 (first:=[]) (caps:=[pv q]) Y.types Tryz.call190 (λy=>!DF d y.fields) (λy R=>c190 (c _ _ l) L (n.sub c) (Y.typesOk y R))).call ⟨_,rfl,λha=>W ((u o).trans (N.trans c)) λk=>?_,λha=>⟨_,Ax (c _ _ l),some b,rfl,(u o).trans (N.trans c),.inl ⟨GB.2 ⟨hv,F,z,λx Q=>?_⟩,b,rfl,n.sub c⟩⟩⟩;·grind[xZ,GB]
  simp_all
theorem c251{mo:Option Nat}(c:GC V d mo)(N:hasT d=true)(hm:Mm.Ok V m){t:KB}(Z:known d t=true){v:Int}:PP 251 [.map mo,m.v,.string t,.int .i64 v] V (.bool (AR d m t v)):=by
 refine x251 ?_;have Y:=hm.nodes.n_eq;obtain⟨b,rfl,a⟩:∃b,mo=some b/\A5 V b (tmap d):=by
  rcases c with⟨-,h⟩|⟨h,-⟩;·exact h
  simp_all
 have ret:∀{x y:Bool},x=y->xJ (.bool x)=.returned (.bool y)/\V=V:=λh=>by simp_all
 refine⟨λj=>?_,λj=>⟨λl=>?_,λl=>?_⟩⟩;·grind[AR,Ai]
 ·grind[AR,Ai,Ar,inr]
 ·unfold AR;rw[if_neg (show ¬t=Ai from j),if_neg (show ¬t=Ar from l)];refine⟨λr=>ret (decide_eq_true (.inl r)).symm,λr=>⟨λe=>⟨λs=>?_,λs=>ret ?_⟩,λe=>ret ?_⟩⟩
  ·obtain⟨i,rfl⟩:∃i:Nat,v=(i:Int)+1:=⟨(v-1).toNat,by omega⟩;have H:((i:Int)+1-1).toNat=i:=by omega
   obtain⟨x,J,W,-,Q,z,O,u⟩:=hm.nodes.get (i:=i) (by omega);have q:=Ah (n:=i*2) z;have o:IR ((i:Int)+1-1):=⟨by omega,by have:=(hm.nodes.succ (i:=i) (by omega)).2;omega⟩;have w:BE d t=true:=by
    grind[known,Ai,Ar]
   rw[H];refine⟨o,z,by omega,by omega,q,_,_,u,Bu.str1 wh xo H2 a ?_⟩;unfold tmap;rw[if_pos w];refine⟨_,rfl,LQ (k:=1) u (by decide),q,z,by omega,by omega,o,ret ?_⟩;grind
  ·grind
  grind
theorem c193{mo:Option Nat}(e:GC V d mo)(H:hasT d=true)(hm:Mm.Ok V m){l:Sl}{xs:List Fld}(z:Ad V l 2 (xs.map Fld.row))(N:DF d xs=true){s:Sl}{vs:List Int}(hv:Ad V s 1 (vs.map AE)):PP 193 [.map mo,m.v,l.v,s.v] V (.bool (AB d m xs vs)):=by
 refine x193 ?_;have F:=z.n_eq;have L:=hv.n_eq;refine⟨λZ=>?_,λZ=>?_⟩
 ·refine AK (mk:=.bool) (b0:=false) vs.length (λi V1=>V=V1/\AllI (λi v=>AR d m (tyAt xs i) v) vs i) ⟨rfl,AllI.zero⟩ ?_;rintro i b V1 J R ⟨rfl,c⟩ Y;refine⟨λt=>?_,λW=>?_⟩
  ·obtain⟨x,j,X,-,B,Q,O,w⟩:=z.get t;obtain⟨y,A,a,-,n,r,q,u⟩:=hv.get (i:=i) (by omega);have I:tyAt xs i=x.ty:=by grind[tyAt]
   have o:known d x.ty=true:=z6.1 N x j;refine⟨Q,O,t,_,_,w,r,q,by omega,_,u,(c251 e H hm o).call ⟨_,rfl,λM=>⟨z.succ t,Y n _ _ ⟨rfl,c.succ a (by grind)⟩⟩,λM=>?_⟩⟩;unfold AB;rw[J9 a (by grind),we];simp_all
  ·unfold AB;rw[c.all (by omega),decide_eq_true (by omega)];simp_all
 ·unfold AB;rw[decide_eq_false (by omega)];simp_all
theorem c192(h:Ds.Ok V d){p t:Nat}(u:V p=some (.cells d.row.toArray t (0,0))){n:Nd}:PP 192 [n.v,pv p] V (.bool (!DP d n)):=by
 refine x192 ?_;have z:=h.types.n_eq;refine⟨λw=>?_,λw=>⟨by simp,_,An u 1 1 (by simp[Ds.row]),?_⟩⟩;·unfold DP;rw[decide_eq_false (by omega)];exact⟨rfl,rfl⟩
 ·refine⟨?_,rfl⟩;grind[DP]
theorem c194(h:Ds.Ok V d)(hm:Mm.Ok V m){mo:Option Nat}(c:GC V d mo)(j:hasT d=true){p q r t a t3:Nat}(e:V p=some (cell (.map mo) t))(s:V q=some (.cells m.row.toArray a (0,0)))(H:V r=some (.cells d.row.toArray t3 (0,0))){n:Nd}(J:n∈m.nodes)(y:DP d n=true):
  PP 194 [n.v,pv p,pv q,pv r] V (.bool (!AB d m (BV d n.ty) n.f)):=by
 refine x194 ?_;obtain⟨N,W⟩:=of_decide_eq_true y;have l:=h.types.n_eq;obtain⟨i,o⟩:∃i:Nat,n.ty=(i:Int):=⟨n.ty.toNat,by omega⟩;obtain⟨x,u,Z,-,Q,w,O,z⟩:=h.types.get (i:=i) (by omega);have Y:=En Z o;rw[Y];refine⟨_,Ax e,_,_,An s 0 2 (by simp[Mm.row]),by simp,_,An H 1 1 (by simp[Ds.row]),w,N,by omega,?_⟩;rw[o];refine⟨Ah w,_,_,z,(c193 c j hm (h.typesOk x u).fields ((GB.1 j).2.2.2 x u) (hm.nodesOk n J).rows).call ⟨_,rfl,rfl,rfl⟩⟩
theorem c131(h:Ds.Ok V d)(hm:Mm.Ok V m){mo:Option Nat}(a:GC V d mo):A1 xG 131 [.map mo,d.v,m.v] V (.bool (BQ d m)):=by
 refine A1.mk ?_;refine x131 ?_;have i:=hm.nodes.n_eq;rcases a with⟨w,b,rfl,o⟩|⟨w,rfl⟩;rotate_left
 ·refine⟨λ_=>?_,λk=>absurd rfl k⟩;unfold BQ;rw[(Bool.not_eq_true _).mp w];exact⟨rfl,Mem.sub.refl _⟩
 refine⟨(λk=>by cases k),λ_=>⟨λe=>?_,λe=>?_⟩⟩;·unfold BQ;rw[decide_eq_false (by omega:¬m.nodes.length<=4096)];simp_all[we,Bool.false_and,trivial,Mem.sub.refl]
 intro p s;have y:=Mem.sub_new s (.cells d.row.toArray 30 (0,0));have z:=Mem.set_same V p (.cells d.row.toArray 30 (0,0));have u:=hm.sub y;refine(c191 (first:=[]) (caps:=[pv p]) u.nodes Tryz.call192 (λn=>!DP d n) (λn i=>c192 (h.sub y) z)).call ⟨_,rfl,λH=>?_,λH=>?_⟩;·grind[BQ,DP]
 have x:m.nodes.all (DP d)=true:=by
  simp_all
 have l:GC (V.set p (.cells d.row.toArray 30 (0,0))) d (some b):=.inl ⟨w,b,rfl,o.sub y⟩;have j:=h.sub y;refine⟨nofun,_,An z 2 1 (by simp[Ds.row]),(c193 l w u j.globals (GB.1 w).2.1 u.globals).call ⟨_,rfl,λJ=>?_,λJ=>?_⟩⟩;rotate_left;·grind[BQ]
 intro q N;have Z:=Mem.sub_new N (cell (.map (some b)) 215);intro r Y;have c:=Mem.sub_new Y (.cells m.row.toArray 34 (0,0));have t:=Z.trans c;refine(c191 (first:=[]) (caps:=[pv q,pv r,pv p]) (u.sub t).nodes Tryz.call194 (λn=>!AB d m (BV d n.ty) n.f) (λn i=>?_)).call ⟨_,rfl,?_,y.trans t⟩;·refine c194 (j.sub t) (u.sub t) (mo:=some b) (.inl ⟨w,b,rfl,(o.sub y).sub t⟩) w (c _ _ Ao) Ao (t _ _ z) i (z6.1 x n i)
 grind[BQ,AB]
theorem Kr[Tab V](h:Ds.Ok V d)(hm:Mm.Ok V m):A1 xG 75 [d.v,m.v] V (.bool (BQ d m)):=by
 refine A1.mk ?_;refine Oh ?_;refine Tri.mono (c130 h) ?_;rintro _ V' ⟨u,rfl,t,w⟩;exact⟨u,rfl,(c131 (h.sub t) (hm.sub t) w).call ⟨_,rfl,rfl,t⟩⟩
end
def KnOk(d:Ds)(m:Mm)(kn:Int×Int->Option Int):Prop:=∀k v,kn k=some v->∃n,Ay d m n k.1 k.2=.ok v
def F0(bz:Int×Int->Bool):Int->Int->Prop:=λa b=>bz (a,b)=true
def pairs(d:Ds)(m:Mm):List (Int×Int):=(zB d.measures.length).flatMap λ(i:Nat)=>(zB (m.nodes.length+1)).map λ(x:Nat)=>((i:Int),(x:Int))
def F5(d:Ds)(m:Mm)(kn:Int×Int->Option Int)(bz:Int×Int->Bool):Nat:=((pairs d m).filter λk=>(kn k).isNone&&!bz k).length
theorem I8{α:Type}{p q:α->Bool}:∀{l:List α},(∀a∈l,q a=true->p a=true)->(l.filter q).length<=(l.filter p).length
 |[],_=>yV _
 |a::l,h=>by
  have t:=I8 (l:=l) λx u=>h x (za _ u);have w:=h a zb;rw[z8,z8];cases z:q a with
  |true=>rw[w z];simpa using t
  |false=>
   cases y:p a with
   |true=>simp;omega
   |false=>simpa using t
theorem Ks{α:Type}{p q:α->Bool}:∀{l:List α},(∀a∈l,q a=true->p a=true)->∀a∈l,p a=true->q a=false->(l.filter q).length<(l.filter p).length
 |[],_,a,t,_,_=>by cases t
 |b::l,h,a,t,w,z=>by
  have y:∀x∈l,q x=true->p x=true:=λx i=>h x (za _ i);rw[z8,z8];rcases List.mem_cons.1 t with rfl|hm
  ·rw[w,z];have:=I8 y;simp;omega
  ·have j:=Ks y a hm w z;have n:=h b zb;cases u:q b with
   |true=>rw[n u];simpa using j
   |false=>
    cases r:p b with
    |true=>simp;omega
    |false=>simpa using j
theorem mem_pairs{d:Ds}{m:Mm}{i x:Nat}(hi:i<d.measures.length)(t:x<=m.nodes.length):((i:Int),(x:Int))∈pairs d m:=by
 unfold pairs;rw[List.mem_flatMap];exact⟨i,yY.2 hi,List.mem_map.2 ⟨x,yY.2 (by omega),rfl⟩⟩
theorem unseen_le{d:Ds}{m:Mm}{kn kn':Int×Int->Option Int}{bz:Int×Int->Bool}(h:∀k,kn k≠none->kn' k≠none):F5 d m kn' bz<=F5 d m kn bz:=by
 refine I8 λa _ t=>?_;simp only[zC,Option.isNone_iff_eq_none]at t⊢;refine⟨?_,t.2⟩;cases u:kn a with
 |none=>rfl
 |some v=>exact absurd t.1 (h a (by rw[u];simp))
structure Cr (V0:Mem)(d:Ds)(m:Mm)(p kb bb:Nat)(V:Mem)(kn:Int×Int->Option Int)(bz:Int×Int->Bool)(g:Nat->Rs)(rs:Rs)(V':Mem):Prop where
 out:Out d m (F0 bz) g rs
 keep:CL kb bb V V'
 mach:∃kn' bz',Bw V0 d m p kb bb V' kn' bz'/\KnOk d m kn'/\∀v,rs=.ok v->bz'=bz/\∀k,kn k≠none->kn' k≠none
def BC(V0:Mem)(d:Ds)(m:Mm)(p kb bb:Nat)(V:Mem)(kn:Int×Int->Option Int)(bz:Int×Int->Bool)(g:Nat->Rs):Ending->Mem->Prop:=λr V'=>∃rs,r=resR rs/\Cr V0 d m p kb bb V kn bz g rs V'
section
variable{V0 V V1 V2:Mem}{d:Ds}{m:Mm}{p kb bb:Nat}{kn kn':Int×Int->Option Int}{bz:Int×Int->Bool}{g G:Nat->Rs}{h:Nat->Int->Rs}{rs:Rs}
theorem Cr.ok_parts{a:Int}(H:Cr V0 d m p kb bb V kn bz g (.ok a) V1):∃kn',Bw V0 d m p kb bb V1 kn' bz/\KnOk d m kn'/\(∀k,kn k≠none->kn' k≠none)/\∃n,g n=.ok a:=by
 obtain⟨kn',bz',t,u,w⟩:=H.mach;obtain⟨rfl,z⟩:=w a rfl;exact⟨kn',t,u,z,H.out⟩
theorem Cr.pure(M:Bw V0 d m p kb bb V kn bz)(K:KnOk d m kn)(o:Out d m (F0 bz) g rs):Cr V0 d m p kb bb V kn bz g rs V:=⟨o,CL.refl V,kn,bz,M,K,λ_ _=>⟨rfl,λ_ h=>h⟩⟩
theorem Cr.bad{e:Int}(H:Cr V0 d m p kb bb V1 kn bz g (.bad e) V2)(t:V.sub V1)(u:∀n,G n=(g n).bind (h n)):Cr V0 d m p kb bb V kn bz G (.bad e) V2:=
 ⟨(Out.bindBad (h:=h) H.out).congr λn=>(u n).symm,(CL.of_sub t).trans H.keep,by
  obtain⟨a,b,w,z,-⟩:=H.mach;exact⟨a,b,w,z,nofun⟩⟩
theorem Cr.seq{w:Mem}{a:Int}(H:Cr V0 d m p kb bb V1 kn bz g (.ok a) V2)(j:V.sub V1)(i:∀n,G n=(g n).bind (h n))(l:Mono g)(r:Mono λn=>h n a)(q:∀k,kn k≠none->kn' k≠none)(t:Cr V0 d m p kb bb V2 kn' bz (λn=>h n a) rs w):Cr V0 d m p kb bb V kn bz G rs w:=
 ⟨(Out.bindOk l r H.out t.out).congr λn=>(i n).symm,((CL.of_sub j).trans H.keep).trans t.keep,by
  obtain⟨x,y,o,c,z⟩:=t.mach;exact⟨x,y,o,c,λv hv=>⟨(z v hv).1,λk u=>(z v hv).2 k (q k u)⟩⟩⟩
theorem BC.split{f:FuncId}{args:Array Value}{K:Int->Mem->Prop}{R:Ending->Mem->Prop}(H:Tri xG f args V (BC V0 d m p kb bb V kn bz g))(u:∀e V',Cr V0 d m p kb bb V kn bz g (.bad e) V'->R (fltC e) V')(w:∀a V',Cr V0 d m p kb bb V kn bz g (.ok a) V'->K a V'):
  Tri xG f args V λe V'=>(∃v,e=.returned (.int .i64 v)/\K v V')∨∃z,e=.panicked z/\R e V':=
 Tri.mono H λe V' ⟨rs,y,t⟩=>by
  subst y;cases rs with
  |ok a=>exact .inl ⟨a,rfl,w a V' t⟩
  |bad e=>exact .inr ⟨_,rfl,u e V' t⟩
theorem RB.split{f:FuncId}{args:Array Value}{K:Int->Mem->Prop}{R:Ending->Mem->Prop}(H:Tri xG f args V (RB rs V))(t:∀e,rs=.bad e->R (fltC e) V)(u:∀a,rs=.ok a->K a V):
  Tri xG f args V λe V'=>(∃v,e=.returned (.int .i64 v)/\K v V')∨∃w,e=.panicked w/\R e V':=
 Tri.mono H λe V' z=>by
  obtain⟨rfl,rfl⟩:=z;cases rs with
  |ok a=>exact .inl ⟨a,rfl,u a rfl⟩
  |bad e=>exact .inr ⟨_,rfl,t e rfl⟩
variable(V0 d m p kb bb)in
def ExprC(N:Nat):Prop:=∀(e:E)(T t:KB)(x:Int) V kn bz,VE e->E.Ok V0 e->Al d (AQ d T) e=(t,0)->This d m T x->Bw V0 d m p kb bb V kn bz->KnOk d m kn->F5 d m kn bz<=N->
 Tri xG 79 #[pv p,e.v,.int .i64 x] V (BC V0 d m p kb bb V kn bz λn=>AD d m (Ay d m n) x e)
variable(V0 d m p kb bb)in
def MeasC(N:Nat):Prop:=∀(i:Nat)(ms:Ms)(x:Int) V kn bz,d.measures[i]?=some ms->AX d m ms.ty x->Bw V0 d m p kb bb V kn bz->KnOk d m kn->F5 d m kn bz<=N->
 Tri xG 137 #[pv p,.int .i64 i,.int .i64 x] V (BC V0 d m p kb bb V kn bz λn=>Ay d m n i x)
theorem zeroBool(w:World):(zeroValue 4).run xG w=.ok (.bool false) w:=by kernel_rfl
open Classical in
theorem measC(S:CV V0 d m p kb bb)(N:Nat)(ih:∀N',N'<N->ExprC V0 d m p kb bb N'):MeasC V0 d m p kb bb N:=by
 intro i ms x V kn bz s U M K hN;refine Tri.mono (x137 (R:=BC V0 d m p kb bb V kn bz λn=>Ay d m n i x) ?_) λ_ _ h=>h;have hd:=S.ds.sub M.sub;have hil:=(yv.1 s).1;have hn:=hd.measures.n_eq;have J:=xM s;obtain⟨y,-,hy,-,hl,hp,hz,I⟩:=hd.measures.get (i:=i) (by omega);rw[s]at hy;cases hy;refine⟨nn,nn,Bc,d.ms,M.cell 4 1 (by decide),hp,hz,by omega,_,_,_,_,_,_,_,I,λW=>?_,λW=>⟨nn,nn,_,M.cell 10 1 (by decide),Bu.key2 (k:=((i:Int),x)) keyOf wc H2 M.known ?_⟩⟩
 ·refine⟨.ok ms.nil,rfl,.pure M K ⟨0,?_⟩⟩;show Ay d m 0 i x=.ok ms.nil;unfold Ay nilM;rw[if_pos W,xh,s];rfl
 have W:¬x=0:=W;cases F:kn ((i:Int),x)with
 |some v=>
  refine⟨v,true,rfl,λ_=>?_,λk=>absurd rfl k⟩;exact⟨.ok v,rfl,.pure M K (K _ _ F)⟩
 |none=>
  refine⟨0,false,rfl,(λk=>by cases k),λ_=>⟨nn,nn,_,M.cell 11 1 (by decide),Bu.key1 (k:=((i:Int),x)) keyOf wb zeroBool M.busy ?_⟩⟩;cases Q:bz ((i:Int),x)with
  |true=>
   refine⟨true,rfl,λ_=>GenK.pan rfl ?_,λk=>absurd rfl k⟩;exact⟨.bad 16,rfl,.pure M K (.inr ⟨rfl,.inr ⟨i,x,Q,λ_ h=>h⟩⟩)⟩
  |false=>
   refine⟨false,rfl,(λk=>by cases k),λ_=>⟨nn,nn,_,M.cell 11 1 (by decide),Cg.key (k:=((i:Int),x)) keyOf wb M.busy λo ho=>?_⟩⟩;obtain⟨c1,c2⟩:=(Kc S.good.chk).1 ms J;have Z:=FX S.good.valid c1;have L:AR d m ms.ty x=true:=by
    unfold AX at U;rw[if_neg (DQ Z kwNil)]at U;exact U
   obtain⟨r1,r2,-⟩:=LZ Z L W;obtain⟨t,u⟩:∃t:Int×Int->Bool,t=λk=>bz k||decide (k=((i:Int),x)):=⟨_,rfl⟩;have M1:Bw V0 d m p kb bb (V.set bb o) kn t:=⟨M.sub.set S.b0 o,by rw[Mem.set_ne S.pb];exact M.at_,M.known.set S.kb,ho.congr λk=>by
    rw[u];by_cases z:k=((i:Int),x)<;>simp[z]⟩
   have hlt:F5 d m kn t<F5 d m kn bz:=by
    obtain⟨q,rfl⟩:∃q:Nat,x=(q:Int):=⟨x.toNat,by omega⟩;refine Ks (λa _ T=>?_) ((i:Int),(q:Int)) (mem_pairs hil (by omega)) (by simp[F,Q]) (by simp[u]);rw[u]at T;simp only[zC,Bool.not_eq_true',Bool.or_eq_false_iff]at T⊢;exact⟨T.1,T.2.1⟩
   have j:CL kb bb V (V.set bb o):=λc o' _ O X=>by rw[Mem.set_ne O];exact X
   have hB:∀a b,F0 t a b->F0 bz a b∨(a=(i:Int)/\b=x):=λa b h=>by
    unfold F0 at h⊢;rw[u]at h;simpa using h
   have Y:∀{r:Rs},Out d m (F0 t) (λn=>AD d m (Ay d m n) x ms.x) r->Out d m (F0 bz) (λn=>Ay d m n i x) r:=λ{r} h=>by
    refine Out.measure W (by rw[xh];exact s) ?_;cases r with
    |ok v=>exact h
    |bad e=>
     rcases h with h|⟨A,h|⟨a,b,O,X⟩⟩;·exact .inl h
     ·exact .inr ⟨A,.inl h⟩
     ·exact .inr ⟨A,.inr ⟨a,b,hB a b O,X⟩⟩
   refine BC.split (ih (F5 d m kn t) (by omega) ms.x ms.ty Ai x _ kn t (Kd ((Hj S.good.valid).2.2.1 ms J)).2.2 (S.ds.measuresOk ms J).x c2 (.inr ⟨c1,W,L⟩) M1 K (yV _)) (λe V2 H=>?_) λv V2 H=>?_
   ·obtain⟨kn',bz',q1,q2,-⟩:=H.mach;exact⟨.bad e,rfl,Y H.out,j.trans H.keep,kn',bz',q1,q2,nofun⟩
   ·obtain⟨kn',B,K2,C,n2,hn2⟩:=H.ok_parts;refine⟨nn,nn,_,B.cell 11 1 (by decide),GenK.delete (k:=((i:Int),x)) keyOf wb B.busy rfl rfl λo2 ho2=>⟨rfl,?_⟩⟩;have D:Bw V0 d m p kb bb (V2.set bb o2) kn' bz:=⟨B.sub.set S.b0 o2,by rw[Mem.set_ne S.pb];exact B.at_,B.known.set S.kb,ho2.congr λk=>by
     rw[u];by_cases z:k=((i:Int),x);·rw[z,if_pos rfl,if_neg (by rw[Q];decide)]
     ·simp[z]⟩
    refine⟨nn,nn,_,D.cell 10 1 (by decide),Cg.key (k:=((i:Int),x)) keyOf wc D.known λo3 ho3=>?_⟩;have E:∃n,Ay d m n i x=.ok v:=Y H.out;refine⟨.ok v,rfl,E,λc o' A O X=>?_,λk=>if k=((i:Int),x)then some v else kn' k,bz,⟨D.sub.set S.k0 o3,by rw[Mem.set_ne S.pk];exact D.at_,ho3.congr λk=>?_,D.busy.set (λe=>S.kb e.symm)⟩,λk w z=>?_,λ_ _=>⟨rfl,λk z=>?_⟩⟩
    ·rw[Mem.set_ne A,Mem.set_ne O];exact H.keep c o' A O (j c o' A O X)
    ·by_cases z:k=((i:Int),x)<;>simp[z]
    ·have z:(if k=((i:Int),x)then some v else kn' k)=some w:=z;by_cases l:k=((i:Int),x);·rw[if_pos l]at z;cases z;rw[l];exact E
     ·rw[if_neg l]at z;exact K2 k w z
    ·by_cases l:k=((i:Int),x);·simp[l]
     ·simp only[l,if_false];exact C k z
end
end Go.Proofs
