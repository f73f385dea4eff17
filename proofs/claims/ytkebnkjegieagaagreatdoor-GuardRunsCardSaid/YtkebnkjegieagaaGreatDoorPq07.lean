/- Part 7: no statement of the seat is proved here. -/
import Derived.Test.YtkebnkjegieagaaGreatDoorPq06
import Derived.DefersIn
import Derived.RecoverIn
set_option linter.unusedVariables false
set_option linter.unusedSimpArgs false
open Go.Proofs.Tryz renaming prog->xV,underlying321->wC,underlying9->wB,underlying393->wq,f298->wz,f125->wy,underlying341->wh,isAgg3->vG,underlying3->vH,underlying379->vJ,underlying217->vR,underlying268->vV,underlying269->vW,underlying20->vz,f257->vy,f194->vx,underlying272->vt
open Array renaming replicate->wM,getD_eq_getD_getElem?->wx,getElem?_setIfInBounds_ne->wv,getElem?_eq_some_iff->yN,forIn_toList->vK
open List renaming range->zC,zip_cons_cons->wP,lookup_cons->yH,getElem?_eq_some_iff->yg,take_of_length_le->wm,mapM_toArray->wk,mapM_cons->wj,drop_eq_getElem_cons->wi,map_toArray->xP,map_cons->zI,map_nil->yZ,findIdx?_cons->y5,getElem?_eq_getElem->yf,mem_of_getElem?->xw,any_eq_true->xg,all_eq_true->yK,mem_cons_of_mem->yJ,mem_cons_self->yI,filter_cons->yM,mem_cons->zJ,mem_range->yo,getElem?_toArray->vZ,getElem?_cons_zero->xm,mem_append_left->vu,not_mem_nil->xT,length_append->zK,length_singleton->zL
open Ne renaming symm->wu
open Go.Value renaming string->yb,map->zh,int->vP
open Go.Sem renaming run_bind->zV,run_pure->zX
open Go.Result renaming andThen_ok->zW
open Nat renaming le_trans->yr,mul_le_mul->vA,log2->vC,two_pow_pos->vD,le_log2->vF,le_refl->yu,strongRecOn->yx
open Go.Code renaming wpIn->wO
open Go.IntKind renaming min->we,max->wc,signed->zt,bits->zr,wrap->xW,u64->wa
open BitVec renaming ofInt->wb,ofNat->w8,toNat_ofNat->w9
open Int renaming natCast_add->vB,toNat_natCast->wH,toNat_of_nonneg->vQ
open Go.Ending renaming returned->xY
open Go.Op renaming equalIn->zk
open Go.Instr renaming findAsking->vL,findNow->y4,sameNow->vM,findKey->y8,checkKey->y9,sameBits->vN,keyThatStays->vO
open Bool renaming and_eq_true->zD,and_false->vT,not_eq_true->vU,not_eq_true'->zo,or_eq_false_iff->vX
open Go.Region renaming wanted->yX
open Go.Oper renaming uponIn->vY
open Go.Fence renaming wide->wJ
open Go.Deferred renaming ofValue->yQ
open Go.FrameMode.panicking renaming injEq->vw
namespace Go.Proofs
open Go Go.Sx
attribute [local irreducible] Go.Sx.Tri
theorem c329{V:Mem}{s:Sl}:Tri xV 329 #[uL s] V λe V'=>∃b,V b=none/\e=.returned (.func (.func 351) #[] #[pv b])/\V'=V.set b (cell (uL s) 23):=by
 refine x329 ?_;exact λb u=>⟨b,u,rfl,rfl⟩
theorem c169{V:Mem}{s:Sl}:Tri xV 169 #[uL s] V λe V'=>∃b,V b=none/\e=.returned (.func (.func 222) #[] #[pv b])/\V'=V.set b (cell (uL s) 22):=by
 refine x169 ?_;exact λb u=>⟨b,u,rfl,rfl⟩
theorem c170{V:Mem}{s:Sl}:Tri xV 170 #[uL s] V λe V'=>∃b,V b=none/\e=.returned (.func (.func 223) #[] #[pv b])/\V'=V.set b (cell (uL s) 24):=by
 refine x170 ?_;exact λb u=>⟨b,u,rfl,rfl⟩
theorem H6{args:XV}{N:Nat}(h:args.length<=N):Has N {tmps:=args.toArray++wM (N-args.toArray.size) undef,defers:=[]} ((zC args.length).zip args):=by
 refine⟨by simp;omega,λs v u=>?_⟩;rw[List.range_eq_range']at u;have key:∀(l:XV)(k:Nat),((List.range' k l.length).zip l).lookup s=some v->k<=s/\l[s-k]?=some v:=by
  intro l;induction l with
  |nil=>simp_all
  |cons x xs r=>
   intro k h;simp only[List.length_cons,List.range'_succ,wP,yH]at h;grind
 obtain⟨-,z⟩:=key args 0 u;have y:=(yg.1 z).1;simp_all[Nat.sub_zero,wx,Array.getElem?_append_left]
theorem Kb{tmps:XQ}{p q:Nat}{u v:Value}:((#[p,q].zip #[u,v]).foldl (λt (p,v)=>t.setIfInBounds p v) tmps)=(tmps.setIfInBounds p u).setIfInBounds q v:=by
 simp
theorem Kc{tmps:XQ}{p s:Nat}{u:Value}(h:s≠p):(tmps.setIfInBounds p u).getD s undef=tmps.getD s undef:=by
 simp[wx,wv (wu h)]
theorem getD_same{tmps:XQ}{p:Nat}{u:Value}(h:p<tmps.size):(tmps.setIfInBounds p u).getD p undef=u:=by
 simp_all
theorem LN(f:Fld)(l:XX)(k:KB):BV (f::l) k=if k=f.name then some f.ty else BV l k:=by
 grind[BV]
theorem varOf_app(a b:XX)(k:KB):BV (a++b) k=(BV a k).or (BV b k):=by
 grind[BV]
theorem varOf_any(a:XX)(k:KB):(BV a k).isSome=a.any λf=>decide (f.name=k):=by
 grind[BV]
theorem seen_old{a g:XX}{f:Fld}(h:(a.any λx=>decide (x.name=f.name))=true)(k:KB):BV (a++[f]++g) k=BV (a++g) k:=by
 simp only[varOf_app,LN];rw[<-varOf_any]at h;by_cases e:k=f.name
 .subst e;rw[if_pos rfl];cases hv:BV a f.name with
  |none=>simp_all
  |some x=>rfl
 grind[BV]
theorem seen_new{a g:XX}{f:Fld}(h:¬(a.any λx=>decide (x.name=f.name))=true)(k:KB):BV (a++[f]++g) k=if k=f.name then some f.ty else BV (a++g) k:=by
 simp only[varOf_app,LN];rw[<-varOf_any]at h;by_cases e:k=f.name;.simp_all
 grind[BV]
structure SI (V:Mem)(c:XI)(body:Bool)(d:Ds)(mb bx b6 b7:Nat)(m:KB->Option Value)(V1:Mem):Prop where
 sub:V.sub V1
 nm:V mb=none
 n6:V b6=none
 map:Bf V1 mb m
 bx:V1 bx=some (cell (.slice d.gs.p d.gs.n d.gs.c) 23)
 b6:V1 b6=some (.cells #[.pointer none,.map none,.bool false] 323 (0,0))
 b7:V1 b7=some (.cells #[.pointer c,.map (some mb),.bool body] 323 (0,0))
section
variable{V V1:Mem}{c:XI}{body:Bool}{d:Ds}{mb bx b6 b7:Nat}{m m':KB->Option Value}
theorem SI.fresh(h:SI V c body d mb bx b6 b7 m V1){b:Nat}(z:V1 b=none)(o:Obj):SI V c body d mb bx b6 b7 m (V1.set b o):=
 have u:=Mem.sub_new z o
 ⟨h.sub.trans u,h.nm,h.n6,h.map.sub u,u _ _ h.bx,u _ _ h.b6,u _ _ h.b7⟩
theorem SI.up(h:SI V c body d mb bx b6 b7 m V1){o:Obj}(u:Bf (V1.set mb o) mb m'):SI V c body d mb bx b6 b7 m' (V1.set mb o):=by
 obtain⟨es,r,hm,-,-⟩:=h.map.at_;have z:bx≠mb:=λe=>by have:=h.bx;simp_all
 have y:b6≠mb:=λe=>by have:=h.b6;simp_all
 have l:b7≠mb:=λe=>by have:=h.b7;simp_all
 exact⟨h.sub.set h.nm o,h.nm,h.n6,u,by rw[Mem.set_ne z];exact h.bx,by rw[Mem.set_ne y];exact h.b6,by rw[Mem.set_ne l];exact h.b7⟩
theorem SI.cg(h:SI V c body d mb bx b6 b7 m V1)(e:∀k,m k=m' k):SI V c body d mb bx b6 b7 m' V1:=⟨h.sub,h.nm,h.n6,h.map.congr e,h.bx,h.b6,h.b7⟩
end
section
variable{V V1:Mem}{c:XI}{body:Bool}{d:Ds}{mb bx b6 b7:Nat}{m m':KB->Option Value}
theorem scopeRound{l:Sl}(h:SI V c body d mb bx b6 b7 m V1)(x:Fld)(V2:Mem)(b:Nat)(z:V1 b=none)(y:V2=V1.set b (.cells x.row.toArray 97 (0,0))):
  AS xV 63 c298c [(7,pv b7),(9,pv b)] [] V2 λ_ V3=>SI V c body d mb bx b6 b7 (λk=>if k=x.name then some (uS x.ty)else m k) V3:=by
 subst y;have u:=h.fresh z (.cells x.row.toArray 97 (0,0));refine s298c ?_;unfold w298c;refine⟨by simp,some mb,Aj u.b7 1 1 (by simp),by simp,x.name,Aj Av 0 1 (by simp[Fld.row]),by simp,x.ty,Aj Av 1 1 (by simp[Fld.row]),?_⟩;exact Co.str wC wB u.map λo r=>⟨_,rfl,u.up r⟩
theorem scopeAssign(x:Fld):AS xV 63 c298b [(7,pv b7),(26,Fld.v x)] [7,9] V1 λvs V2=>∃b,V1 b=none/\V2=V1.set b (.cells x.row.toArray 97 (0,0))/\vs=[pv b7,pv b]:=by
 refine s298b (b:=x.name) (c:=x.ty) ?_;unfold w298b;exact λb u=>⟨_,rfl,b,u,rfl,rfl⟩
theorem zero4(w:World):(zeroValue 4).run xV w=.ok (.bool false) w:=by kernel_rfl
theorem scopeTail{l:Sl}{ls:List (Sl×XX)}(h:SI V c body d mb bx b6 b7 (λk=>(BV d.globals k).map yb) V1)(hl:Ae V l 1 (ls.map λx=>[x.1.v]))(S:∀x∈ls,Ae V x.1 2 (x.2.map Fld.row)):
  AS xV 63 c298d [(0,.pointer c),(1,.bool body),(2,uL l),(6,pv b6),(7,pv b7)] [6] V1 λvs V2=>vs=[pv b6]/\
   V.sub V2/\V mb=none/\Bf V2 mb (λk=>(BV (ls.flatMap (·.2)++d.globals) k).map yb)/\V2 b6=some (.cells #[.pointer c,.map (some mb),.bool body] 323 (0,0)):=by
 refine s298d ?_;unfold w298d;refine GenK.makeMap λH U=>⟨some H,rfl,?_⟩;have hsV:V H=none:=by
  cases hc:V H with
  |none=>rfl
  |some o=>have:=h.sub _ _ hc;simp_all
 have M:mb≠H:=λe=>by
  obtain⟨es,cl,hm,-,-⟩:=h.map.at_;simp_all
 let TI (done:XX) (V2:Mem):Prop:=SI V c body d mb bx b6 b7 (λk=>(BV (done++d.globals) k).map yb) V2/\Bf V2 H (λk=>if(done.any λf=>decide (f.name=k))=true then some (.bool true)else none);have h0:TI [] (V1.set H (.map #[] 0)):=⟨h.fresh U _,(Bf.made V1 H).congr λk=>by simp⟩;refine EJ ls.length (λi V2=>TI ((ls.take i).flatMap (·.2)) V2) (by simpa using h0) ?_;intro i V2 J hi r hJ;have W:=hl.sub r.1.sub;refine⟨λq=>?_,λq=>?_⟩
 .obtain⟨x,hm,hx,hdr,F,hnn,hz,L⟩:=W.get q;refine⟨hnn,hz,q,x.1,L,?_⟩;have htk:(ls.take (i+1)).flatMap (·.2)=(ls.take i).flatMap (·.2)++x.2:=by
   grind
  refine EJ x.2.length (λj V3=>TI ((ls.take i).flatMap (·.2)++x.2.take j) V3) (by simpa using r) ?_;intro j V3 J' hj u R;have N:=(S x hm).sub u.1.sub;refine⟨λz=>?_,λz=>?_⟩
  .obtain⟨f,hmf,hf,hdrf,Y,X,hzf,O⟩:=N.get z;have A:(ls.take i).flatMap (·.2)++x.2.take (j+1)=((ls.take i).flatMap (·.2)++x.2.take j)++[f]:=by
    grind
   refine⟨X,hzf,z,f.name,f.ty,O,?_⟩;refine BE.str1 wq wB zero4 u.2 ?_;generalize hdone:(ls.take i).flatMap (·.2)++x.2.take j=done at u A;refine⟨done.any λy=>decide (y.name=f.name),?_,λhs=>?_,λhs=>?_⟩;.grind
   .refine⟨N.succ z,R Y _ ?_⟩;rw[A];refine⟨u.1.cg λk=>by rw[seen_old hs],u.2.congr λk=>?_⟩;grind
   .refine⟨by simp,some mb,Aj u.1.b7 1 1 (by simp),?_⟩;refine Co.str wC wB u.1.map λo ho=>?_;have hsi:=u.1.up ho;refine Co.str wq wB (u.2.set (o:=o) (wu M)) λo2 ho2=>?_;refine⟨N.succ z,R Y _ ?_⟩;rw[A];have B:b6≠H:=λe=>by have:=h.b6;simp_all
    have C:b7≠H:=λe=>by have:=h.b7;simp_all
    have D:bx≠H:=λe=>by have:=h.bx;simp_all
    refine⟨?_,ho2.congr λk=>?_⟩
    .have I:=hsi.cg (m':=λk=>(BV (done++[f]++d.globals) k).map yb) λk=>by
      rw[seen_new hs];grind
     exact⟨I.sub.set hsV _,I.nm,I.n6,I.map.set M,by rw[Mem.set_ne D];exact I.bx,by rw[Mem.set_ne B];exact I.b6,by rw[Mem.set_ne C];exact I.b7⟩
    grind
  .obtain⟨hd,K⟩:=N.done z;refine⟨W.succ q,hJ F _ ?_⟩;simp_all[wm]
 .obtain⟨hd,K⟩:=W.done q;rw[wm K]at r;have Z:=Aj r.1.b7 0 3 (by simp);refine⟨c,some mb,body,Z,⟨⟨b6,0,none⟩,_,_,rfl,r.1.b6,rfl,by simp,?_⟩⟩;have e7:mb≠b6:=λe=>by
   obtain⟨es,cl,hm,-,-⟩:=r.1.map.at_;have:=r.1.b6;simp_all
  exact⟨_,rfl,rfl,r.1.sub.set h.n6 _,h.nm,r.1.map.set e7,by rw[Mem.set_same];rfl⟩
end
theorem cell3{b:Nat}{c:XI}{mb:XU}{body:Bool}{w:World}(h:w.heap[b]?=some (.cells #[.pointer c,.map mb,.bool body] 323 (0,0))):(loadVar 323 ⟨b,0,none⟩).run xV w=.ok (.agg #[.pointer c,.map mb,.bool body]) w:=
 HP (P:=xV) (t:=323) (cs:=.cons (.var .p 0) (.cons (.var .m 1) (.cons (.var .b 2) .nil))) (x:=.agg (.cons (.var .p 0) (.cons (.var .m 1) (.cons (.var .b 2) .nil)))) (ρ:=[.pointer c,.map mb,.bool body]) (β:=id) (o:=0) h (by kernel_rfl)
theorem results113{tmps:XQ}{b:Nat}{c:XI}{mb:XU}{body:Bool}{w:World}(h6:tmps.getD 6 undef=pv b)(h:w.heap[b]?=some (.cells #[.pointer c,.map mb,.bool body] 323 (0,0))):
  (results wz tmps).run xV w=.ok (.agg #[.pointer c,.map mb,.bool body]) w:=by
 have u:wz.results=#[.cell 6 323]:=by kernel_rfl
 unfold results;rw[u];have e:asAddr (tmps.getD 6 undef)=pure ⟨b,0,none⟩:=by rw[h6];rfl
 simp only[wk,wj,List.mapM_nil,zV,Sem.run_map,zX,zW,e,cell3 h];rfl
theorem LO{V V1 V2 V3:Mem}{w u z w3:World}{D:Nat}(r:Ax V w V1 u)(H:Ax V1 u V2 z)(J:u.heap.size<=D)(N:V2 D=none)(q:z.heap[D]?=some (.deferred (some [])))(y:Ax V2 z V3 w3):
  Ax V w V3 w3/\w.heap.size<=D/\w3.heap[D]?=some (.deferred (some []))/\V3 D=none:=by
 have l:=(yN.1 q).1;refine⟨(r.trans H).trans y,yr r.size J,(y.old D l N).trans q,?_⟩;cases Z:V3 D with
 |none=>rfl
 |some o=>
  rcases y.dom D (by rw[Z];simp)with h|h
  .grind
  .omega
theorem scopeC:GF:=by
 intro V c d body l ls H hl M;refine NC (c:=AF wz) Tryz.func298 (by kernel_rfl) ?_;intro w hV;rw[show flat (AF wz)=c298a++([.block 0 (.rangeFunc (.tmp 24) #[25,26] ((AY (AF wz) [3,0,0,0]).getD 0 .skip) ((AY (AF wz) [3,0,0,1]).getD 0 .skip))]++(c298d++[.ret]))from by kernel_rfl];have hA:AS xV 63 c298a [(0,.pointer c),(1,.bool body),(2,uL l)] [0,1,2,6,7,24] V λvs V1=>∃mb bx b6 b7,
   vs=[.pointer c,.bool body,uL l,pv b6,pv b7,.func (.func 351) #[] #[pv bx]]/\SI V c body d mb bx b6 b7 (λ_=>none) V1:=by
  refine s298a ?_;unfold w298a;refine GenK.makeMap λmb r=>⟨some mb,rfl,H.nn,H.nn,?_,d.gs,?_,?_⟩
  .obtain⟨cb,mt,mp,t,F,h2,h3,O⟩:=H.at_;rw[F];simp[Aa]
  .exact(H.sub (Mem.sub_new r _)).cell (i:=2) rfl
  refine Tri.mono c329 ?_;rintro _ V2 ⟨bx,L,rfl,rfl⟩;refine⟨.func (.func 351) #[] #[pv bx],rfl,rfl,λb6 R b7 X=>⟨_,rfl,mb,bx,b6,b7,rfl,?_⟩⟩;have n1:bx≠mb:=λe=>by grind[Mem.set_same]
  have n2:b6≠bx:=λe=>by grind[Mem.set_same]
  have n3:b7≠b6:=λe=>by grind[Mem.set_same]
  have s1:=Mem.sub_new r (.map #[] 0);have B:=Mem.sub_new L (cell (.slice d.gs.p d.gs.n d.gs.c) 23);have C:=Mem.sub_new R (.cells #[.pointer none,.map none,.bool false] 323 (0,0));have A:=Mem.sub_new X (.cells #[.pointer c,.map (some mb),.bool body] 323 (0,0));refine⟨s1.trans (B.trans (C.trans A)),r,?_,(Bf.made V mb).sub (B.trans (C.trans A)),(C.trans A) _ _ Av,A _ _ Av,Mem.set_same _ _ _⟩;cases hv:V b6 with
  |none=>rfl
  |some o=>have:=(s1.trans B) _ _ hv;simp_all
 refine hA.step hV (H6 (args:=[.pointer c,.bool body,uL l]) (N:=63) (by simp)) ?_;rintro a1 w1 vs V1 hd1 u ⟨mb,bx,b6,b7,rfl,K⟩ Z;show wO (AB none) 0 xV _ _ a1 w1;refine wpIn_block ?_;have hit:=λfn lp D q=>it351 (V:=V1) (fn':=fn) (tmps:=a1.tmps) (ps:=#[25,26]) (assign:=(AY (AF wz) [3,0,0,0]).getD 0 .skip) (body:=(AY (AF wz) [3,0,0,1]).getD 0 .skip) (D:=D) (l:=lp) (bx:=bx) (s:=d.gs) (xs:=d.globals)
  (J:=λi V2=>SI V c body d mb bx b6 b7 (λk=>(BV (d.globals.drop (d.globals.length-i)) k).map yb) V2) rfl (λi V2 I _=>⟨I.bx,H.ok.globals.sub I.sub⟩) (λk x hx V2 I S w2 U=>by
   have hk:=(yg.1 hx).1;refine LK (N:=63) (insA:=[(7,pv b7),(26,Fld.v x)]) (outsA:=[7,9]) S U (by rw[Kb];simpa using u.1) ?_ (scopeAssign x) (λvs V3 hvs=>?_)
   .intro s v z;rw[Kb];simp only[yH]at z;split at z
    .rename_i e;simp only[beq_iff_eq]at e;subst e;cases z;rw[Kc (by decide),Kc (by decide)];exact u.get rfl
    .split at z
     .rename_i e;simp only[beq_iff_eq]at e;subst e;cases z;exact getD_same (by simp[u.1])
     .cases z
   .obtain⟨b,hb,e2,rfl⟩:=hvs;refine(scopeRound (l:=l) I x V3 b hb e2).mono λ_ V4 O=>O.cg λy=>?_;rw[show d.globals.length-(d.globals.length-1-k)=k+1 by omega,show d.globals.length-(d.globals.length-k)=k by omega];have e3:d.globals.drop k=x::d.globals.drop (k+1):=by
     grind[wi,yg]
    rw[e3,LN];grind)
  (by simpa [BV]using K) q
 refine LJ (Φ:=λV2=>SI V c body d mb bx b6 b7 (λk=>(BV d.globals k).map yb) V2) Z.le (u.get (s:=24) rfl) Tryz.call351 (λfn lp D q=>Tri.mono (hit fn lp D q) λe V' h=>?_) ?_;.simp_all
 .intro D V2 W hD Y hn2 hW hS2;show Cy none 0 xV _ (c298d++[.ret]) _ W;refine(scopeTail hS2 hl M).step Y.le ⟨u.1,λs v z=>u.2 s v ?_⟩ ?_
  .simp only[wP,yH]at z⊢
   repeat' (split at z<;>first|exact z|skip)
   simp_all
  .rintro a3 w3 vs V3 hd3 hH3 ⟨rfl,F,h2,h3,O⟩ hF3;show wO (AB none) 0 xV .ret _ a3 w3;refine wpIn_ret ?_;obtain⟨g1,g2,g3,g4⟩:=LO Z Y hD hn2 hW hF3;refine⟨.inr rfl,[D],?_,by simp,V3,g1,λD' hD'=>?_,_,λw4 hw4=>results113 (hH3.get rfl) (hw4 _ _ O),mb,rfl,F,h2,h3⟩;.simp_all
   simp_all
structure NI (V:Mem)(d:Ds)(cb mt mp p1 p3:Nat)(f g:KB->Option Value)(V1:Mem):Prop where
 sub:V.sub V1
 nt:V mt=none
 np:V mp=none
 ne:mt≠mp
 ck:V1 cb=some (.cells (d.row++[zh (some mt),zh (some mp)]).toArray 247 (0,0))
 b1:V1 p1=some (.cells d.row.toArray 30 (0,0))
 b3:V1 p3=some (cell (pv cb) 205)
 mapT:Bf V1 mt f
 mapP:Bf V1 mp g
section
variable{V V1:Mem}{d:Ds}{cb mt mp p1 p3:Nat}{f g f' g':KB->Option Value}
theorem NI.fresh(h:NI V d cb mt mp p1 p3 f g V1){b:Nat}(z:V1 b=none)(o:Obj):NI V d cb mt mp p1 p3 f g (V1.set b o):=
 have u:=Mem.sub_new z o
 ⟨h.sub.trans u,h.nt,h.np,h.ne,u _ _ h.ck,u _ _ h.b1,u _ _ h.b3,h.mapT.sub u,h.mapP.sub u⟩
theorem GK{V:Mem}{b m:Nat}{c:XQ}{t:Nat}{fr:Nat×Nat}{f:KB->Option Value}(h:V b=some (.cells c t fr))(hm:Bf V m f):b≠m:=λe=>by
 obtain⟨es,u,hm,-,-⟩:=hm.at_;simp_all
theorem NI.upT(h:NI V d cb mt mp p1 p3 f g V1){o:Obj}(u:Bf (V1.set mt o) mt f'):NI V d cb mt mp p1 p3 f' g (V1.set mt o):=
 ⟨h.sub.set h.nt o,h.nt,h.np,h.ne,by rw[Mem.set_ne (GK h.ck h.mapT)];exact h.ck,by rw[Mem.set_ne (GK h.b1 h.mapT)];exact h.b1,by rw[Mem.set_ne (GK h.b3 h.mapT)];exact h.b3,u,h.mapP.set (wu h.ne)⟩
theorem NI.upP(h:NI V d cb mt mp p1 p3 f g V1){o:Obj}(u:Bf (V1.set mp o) mp g'):NI V d cb mt mp p1 p3 f g' (V1.set mp o):=
 ⟨h.sub.set h.np o,h.nt,h.np,h.ne,by rw[Mem.set_ne (GK h.ck h.mapP)];exact h.ck,by rw[Mem.set_ne (GK h.b1 h.mapP)];exact h.b1,by rw[Mem.set_ne (GK h.b3 h.mapP)];exact h.b3,h.mapT.set h.ne,u⟩
theorem NI.cg(h:NI V d cb mt mp p1 p3 f g V1)(u:∀k,f k=f' k)(z:∀k,g k=g' k):NI V d cb mt mp p1 p3 f' g' V1:=⟨h.sub,h.nt,h.np,h.ne,h.ck,h.b1,h.b3,h.mapT.congr u,h.mapP.congr z⟩
theorem newRoundT(h:NI V d cb mt mp p1 p3 f g V1){bx:Nat}{v:Value}{ty:Nat}(y:V1 bx=some (cell v ty))(x:Ty)(V2:Mem)(b:Nat)(l:V1 b=none)(r:V2=V1.set b (.cells x.row.toArray 99 (0,0))):
  AS xV 38 c125c [(3,pv p3),(5,pv b)] [] V2 λ_ V3=>NI V d cb mt mp p1 p3 (λk=>if k=x.name then some x.v else f k) g V3/\V3 bx=some (cell v ty):=by
 subst r;have z:=h.fresh l (.cells x.row.toArray 99 (0,0));have u:=Mem.sub_new l (.cells x.row.toArray 99 (0,0)) _ _ y;refine s125c ?_;unfold w125c;refine⟨_,AD z.b3,by simp,by simp,some mt,Aj z.ck 8 1 (by simp[Ds.row]),by simp,x.name,Aj Av 0 1 (by simp[Ty.row]),x.name,x.fs,Aj Av 0 2 (by simp[Ty.row]),?_⟩;exact Co.str Tryz.underlying244 wB z.mapT λo q=>⟨_,rfl,z.upT q,by rw[Mem.set_ne (GK u z.mapT)];exact u⟩
theorem newRoundP(h:NI V d cb mt mp p1 p3 f g V1){bx:Nat}{v:Value}{ty:Nat}(y:V1 bx=some (cell v ty))(x:Pr)(V2:Mem)(b:Nat)(l:V1 b=none)(r:V2=V1.set b (.cells x.row.toArray 72 (0,0))):
  AS xV 38 c125f [(3,pv p3),(7,pv b)] [] V2 λ_ V3=>NI V d cb mt mp p1 p3 f (λk=>if k=x.name then some x.v else g k) V3/\V3 bx=some (cell v ty):=by
 subst r;have z:=h.fresh l (.cells x.row.toArray 72 (0,0));have u:=Mem.sub_new l (.cells x.row.toArray 72 (0,0)) _ _ y;refine s125f ?_;unfold w125f;refine⟨_,AD z.b3,by simp,by simp,some mp,Aj z.ck 9 1 (by simp[Ds.row]),by simp,x.name,Aj Av 0 1 (by simp[Pr.row]),x.name,x.ps,x.result,x.ls,x.bs,Aj Av 0 5 (by simp[Pr.row]),?_⟩;exact Co.str Tryz.underlying245 wB z.mapP λo q=>⟨_,rfl,z.upP q,by rw[Mem.set_ne (GK u z.mapP)];exact u⟩
theorem newAssignT(x:Ty):AS xV 38 c125b [(3,pv p3),(17,Ty.v x)] [3,5] V1 λvs V2=>∃b,V1 b=none/\V2=V1.set b (.cells x.row.toArray 99 (0,0))/\vs=[pv p3,pv b]:=by
 refine s125b (b:=x.name) (c:=x.fs) ?_;unfold w125b;exact λb u=>⟨_,rfl,b,u,rfl,rfl⟩
theorem newAssignP(x:Pr):AS xV 38 c125e [(3,pv p3),(29,Pr.v x)] [3,7] V1 λvs V2=>∃b,V1 b=none/\V2=V1.set b (.cells x.row.toArray 72 (0,0))/\vs=[pv p3,pv b]:=by
 refine s125e (b:=x.name) (c:=x.ps) (d:=x.result) (g:=x.ls) (i:=x.bs) ?_;unfold w125e;exact λb u=>⟨_,rfl,b,u,rfl,rfl⟩
end
theorem Kd{N:Nat}{a:Act}{p q r:Nat}{l:List (Nat×Value)}{Z u z:Value}(H:Has N a l)(Y:l.lookup r=some Z)(W:r≠p)(O:r≠q)(J:q<N):Has N {tmps:=(#[p,q].zip #[u,z]).foldl (λt (p,v)=>t.setIfInBounds p v) a.tmps,defers:=[]} [(r,Z),(q,z)]:=by
 refine⟨by rw[Kb];simpa using H.1,λs v y=>?_⟩;rw[Kb];simp only[yH]at y;split at y
 .rename_i e;simp only[beq_iff_eq]at e;subst e;cases y;rw[Kc O,Kc W];exact H.get Y
 .split at y
  .rename_i e;simp only[beq_iff_eq]at e;subst e;cases y;exact getD_same (by simp[H.1,J])
  .cases y
theorem mark_keep{V V1:Mem}{w z:World}{D:Nat}(h:Ax V w V1 z)(l:V D=none)(y:w.heap[D]?=some (.deferred (some []))):z.heap[D]?=some (.deferred (some []))/\V1 D=none:=by
 have u:=(yN.1 y).1;refine⟨(h.old D u l).trans y,?_⟩;cases r:V1 D with
 |none=>rfl
 |some o=>
  rcases h.dom D (by rw[r];simp)with h|h
  .grind
  .omega
theorem find_drop{α:Type}{l:List α}{nm:α->KB}{vv:α->Value}{k:Nat}{x:α}(u:l[k]?=some x)(y:KB):
  (if y=nm x then some (vv x)else((l.drop (l.length-(l.length-1-k))).find? λt=>decide (nm t=y)).map vv)=((l.drop (l.length-(l.length-k))).find? λt=>decide (nm t=y)).map vv:=by
 have z:=(yg.1 u).1;rw[show l.length-(l.length-1-k)=k+1 by omega,show l.length-(l.length-k)=k by omega];have r:l.drop k=x::l.drop (k+1):=by
  grind[wi,yg]
 grind
theorem newC:NewC:=by
 intro V d hd;refine NC (c:=AF wy) Tryz.func125 (by kernel_rfl) ?_;intro w hV;rw[show flat (AF wy)=c125a++([.block 0 (.rangeFunc (.tmp 15) #[16,17] ((AY (AF wy) [3,0,0,0]).getD 0 .skip) ((AY (AF wy) [3,0,0,1]).getD 0 .skip))]++
  (c125d++([.block 2 (.rangeFunc (.tmp 27) #[28,29] ((AY (AF wy) [5,0,0,0]).getD 0 .skip) ((AY (AF wy) [5,0,0,1]).getD 0 .skip))]++(c125g++[.ret]))))from by kernel_rfl]
 have hA:AS xV 38 c125a [(0,d.v)] [1,3,15] V λvs V1=>∃cb mt mp p1 p3 bx,
   vs=[pv p1,pv p3,.func (.func 222) #[] #[pv bx]]/\NI V d cb mt mp p1 p3 (λ_=>none) (λ_=>none) V1/\V1 bx=some (cell (.slice d.ts.p d.ts.n d.ts.c) 22):=by
  refine s125a (a:=d.name) (b:=d.ts) (c:=d.gs) (d:=d.ps) (g:=d.ms) (i:=d.is) (j:=d.qs) (k:=d.bs) ?_;unfold w125a;refine GenK.makeMap λmt C=>⟨some mt,rfl,GenK.makeMap λmp hmp=>⟨some mp,rfl,?_⟩⟩;refine Tri.mono c169 ?_;rintro _ V2 ⟨bx,M,rfl,rfl⟩;refine⟨.func (.func 222) #[] #[pv bx],rfl,rfl,λp1 hp1 cb hcb p3 hp3=>⟨_,rfl,cb,mt,mp,p1,p3,bx,rfl,?_,?_⟩⟩;all_goals
   have s1:=Mem.sub_new C (.map #[] 0);have s2:=Mem.sub_new hmp (.map #[] 0);have s3:=Mem.sub_new M (cell (.slice d.ts.p d.ts.n d.ts.c) 22);have s4:=Mem.sub_new hp1 (.cells d.row.toArray 30 (0,0));have K:=Mem.sub_new hcb (.cells (d.row++[zh (some mt),zh (some mp)]).toArray 247 (0,0));have B:=Mem.sub_new hp3 (cell (pv cb) 205)
  .have nmp:mt≠mp:=λe=>by grind[Mem.set_same]
   refine⟨s1.trans (s2.trans (s3.trans (s4.trans (K.trans B)))),C,?_,nmp,B _ _ Av,(K.trans B) _ _ Av,Mem.set_same _ _ _,(Bf.made V mt).sub (s2.trans (s3.trans (s4.trans (K.trans B)))),(Bf.made (V.set mt (.map #[] 0)) mp).sub (s3.trans (s4.trans (K.trans B)))⟩;cases hv:V mp with
   |none=>rfl
   |some o=>have:=s1 _ _ hv;simp_all
  .exact(s4.trans (K.trans B)) _ _ Av
 refine hA.step hV (H6 (args:=[d.v]) (N:=38) (by simp)) ?_;rintro a1 w1 vs V1 hd1 Y ⟨cb,mt,mp,p1,p3,bx,rfl,hN1,S⟩ U;show wO (AB none) 0 xV _ _ a1 w1;refine wpIn_block ?_;have hit:=λfn lp D H=>it222 (V:=V1) (fn':=fn) (tmps:=a1.tmps) (ps:=#[16,17]) (assign:=(AY (AF wy) [3,0,0,0]).getD 0 .skip) (body:=(AY (AF wy) [3,0,0,1]).getD 0 .skip) (D:=D) (l:=lp) (bx:=bx) (s:=d.ts) (xs:=d.types)
  (J:=λi V2=>NI V d cb mt mp p1 p3 (λy=>((d.types.drop (d.types.length-i)).find? λt=>decide (t.name=y)).map Ty.v) (λ_=>none) V2/\V2 bx=some (cell (.slice d.ts.p d.ts.n d.ts.c) 22)) rfl (λi V2 O _=>⟨O.2,hd.types.sub O.1.sub⟩) (λk x hx V2 O F w2 L=>by
   refine LK (N:=38) (insA:=[(3,pv p3),(17,Ty.v x)]) (outsA:=[3,5]) F L (Kd (u:=uI k) (z:=Ty.v x) (p:=16) (q:=17) (r:=3) Y rfl (by decide) (by decide) (by decide)).1 (Kd (p:=16) (q:=17) (r:=3) Y rfl (by decide) (by decide) (by decide)).2 (newAssignT x) (λvs V3 R=>?_);obtain⟨b,hb,e2,rfl⟩:=R;exact(newRoundT O.1 O.2 x V3 b hb e2).mono λ_ V4 I=>⟨I.1.cg (find_drop (nm:=Ty.name) (vv:=Ty.v) hx) λ_=>rfl,I.2⟩)
  ⟨by simpa using hN1,S⟩ H
 refine LJ (Φ:=λV2=>NI V d cb mt mp p1 p3 (λy=>(tyOf d y).map Ty.v) (λ_=>none) V2) U.le (Y.get (s:=15) rfl) Tryz.call222 (λfn lp D H=>Tri.mono (hit fn lp D H) λe V' h=>?_) ?_
 .obtain⟨h1,V2,h2,h3,I⟩:=h;exact⟨h1,V2,h2,h3,by simpa [tyOf]using I.1⟩
 intro D V2 W hD hF2 hn2 hW hN2;show Cy none 0 xV _ (c125d++_) _ W;have hS:AS xV 38 c125d [(1,pv p1),(3,pv p3)] [3,27] V2 λvs V3=>∃bx,vs=[pv p3,.func (.func 223) #[] #[pv bx]]/\NI V d cb mt mp p1 p3 (λy=>(tyOf d y).map Ty.v) (λ_=>none) V3/\V3 bx=some (cell (.slice d.ps.p d.ps.n d.ps.c) 24):=by
  refine s125d ?_;unfold w125d;refine⟨by simp,d.ps,Aj hN2.b1 3 1 (by simp[Ds.row]),?_⟩;refine Tri.mono c170 ?_;rintro _ V3 ⟨bx,M,rfl,rfl⟩;exact⟨.func (.func 223) #[] #[pv bx],rfl,rfl,_,rfl,bx,rfl,hN2.fresh M _,Mem.set_same _ _ _⟩
 refine hS.step hF2.le ⟨Y.1,λs v hs=>Y.2 s v ?_⟩ ?_;.grind[wP]
 rintro a3 w3 vs V3 hd3 A ⟨bx2,rfl,hN3,hbx3⟩ hF3;show wO (AB none) 0 xV _ _ a3 w3;refine wpIn_block ?_;have hit2:=λfn lp D H=>it223 (V:=V3) (fn':=fn) (tmps:=a3.tmps) (ps:=#[28,29]) (assign:=(AY (AF wy) [5,0,0,0]).getD 0 .skip) (body:=(AY (AF wy) [5,0,0,1]).getD 0 .skip) (D:=D) (l:=lp) (bx:=bx2) (s:=d.ps) (xs:=d.procs)
  (J:=λi V2=>NI V d cb mt mp p1 p3 (λy=>(tyOf d y).map Ty.v) (λy=>((d.procs.drop (d.procs.length-i)).find? λt=>decide (t.name=y)).map Pr.v) V2/\V2 bx2=some (cell (.slice d.ps.p d.ps.n d.ps.c) 24)) rfl (λi V2 O _=>⟨O.2,hd.procs.sub O.1.sub⟩) (λk x hx V2 O F w2 L=>by
   refine LK (N:=38) (insA:=[(3,pv p3),(29,Pr.v x)]) (outsA:=[3,7]) F L (Kd (u:=uI k) (z:=Pr.v x) (p:=28) (q:=29) (r:=3) A rfl (by decide) (by decide) (by decide)).1 (Kd (p:=28) (q:=29) (r:=3) A rfl (by decide) (by decide) (by decide)).2 (newAssignP x) (λvs V3 R=>?_);obtain⟨b,hb,e2,rfl⟩:=R;exact(newRoundP O.1 O.2 x V3 b hb e2).mono λ_ V4 I=>⟨I.1.cg (λ_=>rfl) (find_drop (nm:=Pr.name) (vv:=Pr.v) hx),I.2⟩)
  ⟨by simpa using hN3,hbx3⟩ H
 refine LJ (Φ:=λV2=>NI V d cb mt mp p1 p3 (λy=>(tyOf d y).map Ty.v) (λy=>(B6 d y).map Pr.v) V2) hF3.le (A.get (s:=27) rfl) Tryz.call223 (λfn lp D H=>Tri.mono (hit2 fn lp D H) λe V' h=>?_) ?_
 .obtain⟨h1,V2,h2,h3,I⟩:=h;exact⟨h1,V2,h2,h3,by simpa [B6]using I.1⟩
 intro D2 V4 W4 hD2 X hn4 hW4 Z;show Cy none 0 xV _ (c125g++_) _ W4;have hS2:AS xV 38 c125g [(3,pv p3)] [2] V4 λvs V5=>V5=V4/\vs=[pv cb]:=by
  refine s125g ?_;unfold w125g;exact⟨_,AD Z.b3,_,rfl,rfl,rfl⟩
 refine hS2.step X.le ⟨A.1,λs v hs=>A.2 s v ?_⟩ ?_;.grind[wP]
 rintro a5 w5 vs V5 hd5 hH5 ⟨rfl,rfl⟩ hF5;show wO (AB none) 0 xV .ret _ a5 w5;refine wpIn_ret ?_;obtain⟨g1,g2,g3,g4⟩:=LO U hF2 hD hn2 hW hF3;obtain⟨k1,k2,k3,k4⟩:=LO g1 X hD2 hn4 hW4 hF5;obtain⟨m1,m2⟩:=mark_keep (X.trans hF5) g4 g3;have hDlt:D<w3.heap.size:=(yN.1 g3).1;refine⟨.inr rfl,[D2,D],?_,by simp;omega,_,k1,λD' hD'=>?_,_,λw6 hw6=>results_tmp (t:=2) (by kernel_rfl) _ _ _,some ⟨cb,0,none⟩,by rw[hH5.get rfl],Z.sub,?_⟩;.simp_all
 .grind
 .exact⟨⟨cb,mt,mp,247,rfl,Z.ck,Z.mapT,Z.mapP⟩,hd.sub Z.sub⟩
section
variable{P:Program}{V:Mem}{ty:Nat}{vals:Operand->Value}
theorem GenK.shr{t u:TypeId}{x:Operand}{k z:IntKind}{n c:Int}(y:vals x=.int k n)(l:vals (.const (.int z c))=.int z c)(hc:¬c<0){q:Value->Mem->Prop}(r:q (.int k (n.fdiv (2^(min c.toNat k.bits)))) V):GenK P (.binOp .shr t x (.const (.int z c)) u) ty vals V q:=by
 intro w hw;refine⟨_,w,V,?_,Ax.refl hw,r⟩;unfold execOp;simp[y,l,binOp,Op.shift,hc,eqGuard]
theorem GenK.max2{a b:Operand}{ts:Array TypeId}{n1 n2:Int}(u:vals a=uI n1)(z:vals b=uI n2){q:Value->Mem->Prop}(y:q (uI (if n1<n2 then n2 else n1)) V):GenK P (.call {callee:=.builtin .max,args:=#[a,b],argTypes:=ts}) ty vals V q:=by
 intro w hw;refine⟨_,w,V,?_,Ax.refl hw,y⟩;unfold execOp;simp only[resolve,invoke,builtin,zV,zX,zW,xP,zI,yZ,u,z];rfl
theorem GenK.min2{a b:Operand}{ts:Array TypeId}{n1 n2:Int}(u:vals a=uI n1)(z:vals b=uI n2){q:Value->Mem->Prop}(y:q (uI (if n2<n1 then n2 else n1)) V):GenK P (.call {callee:=.builtin .min,args:=#[a,b],argTypes:=ts}) ty vals V q:=by
 intro w hw;refine⟨_,w,V,?_,Ax.refl hw,y⟩;unfold execOp;simp only[resolve,invoke,builtin,zV,zX,zW,xP,zI,yZ,u,z];rfl
theorem GenK.iface{t:TypeId}{ts:Array Field}{x:Operand}{v:Value}(u:P.underlying t=some (.struct ts))(z:vals x=v){q:Value->Mem->Prop}(y:q (.iface t v) V):GenK P (.makeInterface t x) ty vals V q:=by
 intro w hw;refine⟨_,w,V,?_,Ax.refl hw,y⟩;unfold execOp;simp[z,Instr.makeInterface,run_underlying u,zV]
end
def fltV(e:Int):Value:=.iface 341 (.agg #[uI e])
theorem GenK.fault{ty:Nat}{vals:Operand->Value}{V:Mem}{x:Operand}{e:Int}(u:vals x=.agg #[uI e]){q:Value->Mem->Prop}(z:q (fltV e) V):GenK xV (.makeInterface 341 x) ty vals V q:=
 GenK.iface wh u z
def fltC(e:Int):Ending:=.panicked [{v:=fltV e,recovered:=false}]
theorem GenK.pan{ty:Nat}{vals:Operand->Value}{V:Mem}{x:Operand}{e:Int}(u:vals x=.agg #[uI e]){R:RP}(h:R (fltC e) V):
  GenK xV (.makeInterface 341 x) ty vals V λy V1=>∃v,K.r.ok v/\y=v/\∃t x,K.cast .r v=.iface t x/\R (.panicked [{v:=.iface t x,recovered:=false}]) V1:=
 GenK.fault u ⟨fltV e,(rfl:K.cast .r (fltV e)=fltV e),rfl,_,_,rfl,h⟩
def resR:Rs->Ending
 |.ok v=>Id v
 |.bad e=>fltC e
def RB(r:Rs)(V:Mem):RP:=λe V'=>e=resR r/\V'=V
section
variable{V:Mem}
theorem c263{n:Int}:Tri xV 263 #[uI n] V (RB (AR n) V):=by
 refine x263 ?_;have bad:¬(-1099511627776<=n/\n<=1099511627776)->RB (AR n) V (fltC 5) V:=λh=>by unfold AR;rw[if_neg h];exact⟨rfl,rfl⟩
 refine⟨λh=>GenK.pan rfl ((bad (by omega))),λu=>⟨λh=>GenK.pan rfl ((bad (by omega))),λz=>?_⟩⟩;unfold AR;rw[if_pos (by omega)];exact⟨rfl,rfl⟩
theorem c316{b:Bool}:PP 316 [.bool b] V (uI (De b)):=by
 refine x316 ?_;refine⟨λh=>?_,λh=>?_⟩;.rw[show b=true from h];exact⟨rfl,rfl⟩
 .rw[show b=false by simpa using h];exact⟨rfl,rfl⟩
theorem c340{n:Int}(h:-1099511627776<=n/\n<=1099511627776):PP 340 [uI n] V (.int .u64 (n.natAbs:Int)):=by
 refine x340 ?_;refine⟨⟨by omega,by omega⟩,GenK.max2 rfl rfl ⟨_,rfl,?_⟩⟩;have e:(if n<0-n then 0-n else n)=(n.natAbs:Int):=by split<;>omega
 rw[e];exact⟨K.inR_iff.2 (by simp[we,wc,zt,zr];omega),rfl,rfl⟩
theorem Ke{n:Nat}{k:Nat}:((n:Int)).fdiv (2^k)=((n/2^k:Nat):Int):=by
 grind
theorem wrapU(n:Nat):xW .u64 (n:Int)=((n % 18446744073709551616:Nat):Int):=by
 rfl
theorem maskU(n:Nat):Go.bits .and .u64 (n:Int) 4294967295=((n % 4294967296:Nat):Int):=by
 unfold Go.bits;have e:(wb wa.bits (n:Int) &&& wb wa.bits 4294967295).toNat=n % 4294967296:=by
  show(wb 64 (n:Int) &&& wb 64 4294967295).toNat=n % 4294967296;have u:wb 64 (n:Int)=w8 64 n:=by simp
  have z:wb 64 4294967295=w8 64 4294967295:=by decide
  rw[u,z,BitVec.toNat_and,w9,w9,show 4294967295 % 2^64=2^32-1 by decide,Nat.and_two_pow_sub_one_eq_mod];omega
 grind[wrapU]
theorem H7(n:Nat)(h:n<18446744073709551616):K.inR .u64 (n:Int):=K.inR_iff.2 (by simp[we,wc,zt,zr];omega)
theorem c341{a b:Nat}(L:a<=1099511627776)(R:b<=1099511627776):PP 341 [.int .u64 a,.int .u64 b] V (.tuple #[.int .u64 ((a*b/18446744073709551616:Nat):Int),.int .u64 ((a*b % 18446744073709551616:Nat):Int)]):=by
 refine x341 ?_;obtain⟨z,y,J,N,X,B⟩:∃z y:Nat,a % 4294967296=z/\a/4294967296=y/\z<4294967296/\y<=256:=⟨_,_,rfl,rfl,by omega,by omega⟩;obtain⟨u,l,Z,Y,C,D⟩:∃u l:Nat,b % 4294967296=u/\b/4294967296=l/\u<4294967296/\l<=256:=⟨_,_,rfl,rfl,by omega,by omega⟩;have W:z*u<=4294967295*4294967295:=vA (by omega) (by omega);have O:y*u<=256*4294967295:=vA (by omega) (by omega);have A:z*l<=4294967295*256:=vA (by omega) (by omega);have I:y*l<=256*256:=vA (by omega) (by omega);have q:a*b=y*l*18446744073709551616+(y*u+z*l)*4294967296+z*u:=by
  have M:a=y*4294967296+z:=by omega
  have F:b=l*4294967296+u:=by omega
  rw[M,F];grind
 have H:=maskU a;have mb:=maskU b;rw[J]at H;rw[Z]at mb;have shr:∀(n:Nat),(n:Int).fdiv (2^(min (32:Int).toNat wa.bits))=((n/4294967296:Nat):Int):=λn=>by
  rw[show min (32:Int).toNat wa.bits=32 from rfl,Ke]
 have r:∀{n:Nat},n<18446744073709551616->xW .u64 (n:Int)=(n:Int):=λ{n} h=>by rw[wrapU,Nat.mod_eq_of_lt h]
 refine GenK.shr rfl rfl (by decide) ⟨_,rfl,GenK.shr rfl rfl (by decide) ⟨_,rfl,?_⟩⟩;rw[shr,shr,H,mb,N,Y];simp only[<-Int.natCast_mul];rw[r (n:=z*u) (by omega),r (n:=y*u) (by omega),r (n:=z*l) (by omega),r (n:=y*l) (by omega),wrapU];refine GenK.shr rfl rfl (by decide) ⟨_,rfl,?_⟩;rw[shr,<-vB,maskU];refine⟨H7 _ (by omega),GenK.shr rfl rfl (by decide) ⟨_,rfl,?_⟩⟩;rw[shr,<-vB,<-vB];refine⟨H7 _ (by omega),H7 _ (by omega),GenK.shr rfl rfl (by decide) ⟨_,rfl,?_⟩⟩;rw[shr,<-vB];refine⟨H7 _ (by omega),?_,rfl⟩;have e:y*l+(y*u+z*u/4294967296)/4294967296+((y*u+z*u/4294967296) % 4294967296+z*l)/4294967296=a*b/18446744073709551616:=by
  rw[q];omega
 rw[e]
theorem mul_abs{a b:Int}:(a.natAbs*b.natAbs:Nat)=(a*b).natAbs:=(Int.natAbs_mul a b).symm
theorem c315{a b:Int}(u:-1099511627776<=a/\a<=1099511627776)(z:-1099511627776<=b/\b<=1099511627776):Tri xV 315 #[uI a,uI b] V (RB (AR (a*b)) V):=by
 refine x315 ?_;have bad:¬(-1099511627776<=a*b/\a*b<=1099511627776)->RB (AR (a*b)) V (fltC 5) V:=λh=>by unfold AR;rw[if_neg h];exact⟨rfl,rfl⟩
 have hm:=mul_abs (a:=a) (b:=b);refine(c340 u).call ⟨_,rfl,(c340 z).call ⟨_,rfl,(c341 (a:=a.natAbs) (b:=b.natAbs) (by omega) (by omega)).call ⟨_,_,rfl,?_⟩⟩⟩;rw[hm];refine⟨λy=>⟨λl=>GenK.pan rfl ((bad (by omega))),λl=>⟨⟨by omega,by omega⟩,?_⟩⟩,λy=>GenK.pan rfl ((bad (by omega)))⟩;unfold AR;rw[if_pos (by omega)];exact⟨rfl,rfl⟩
theorem c265{op a b:Int}(l:-1099511627776<=a/\a<=1099511627776)(q:-1099511627776<=b/\b<=1099511627776):Tri xV 265 #[uI op,uI a,uI b] V (RB (AC op a b) V):=by
 refine x265 ?_;unfold AC;have out:∀{r:Rs}{e:Ending}{V':Mem},RB r V e V'->(∃v,e=Id v/\RB r V (Id v) V')∨∃H,e=.panicked H/\RB r V e V':=by
  rintro r e V' ⟨rfl,rfl⟩;cases r with
  |ok v=>exact .inl ⟨v,rfl,rfl,rfl⟩
  |bad e=>exact .inr ⟨_,rfl,rfl,rfl⟩
 have tr:∀{b:Bool}{r:Rs},r=.ok (De b)->Tri xV 316 #[.bool b] V λe V'=>∃v,e=Id v/\RB r V (Id v) V':=λh=>c316.call ⟨_,rfl,by rw[h];exact⟨rfl,rfl⟩⟩;refine⟨λh=>?_,λJ=>?_⟩;.rw[if_pos h];exact⟨⟨by omega,by omega⟩,Tri.mono c263 λ_ _=>out⟩
 rw[if_neg (show ¬op=9 from J)];refine⟨λh=>?_,λN=>?_⟩;.rw[if_pos h];exact⟨⟨by omega,by omega⟩,Tri.mono c263 λ_ _=>out⟩
 rw[if_neg (show ¬op=10 from N)];refine⟨λh=>?_,λZ=>?_⟩;.rw[if_pos h];exact Tri.mono (c315 l q) λ_ _=>out
 rw[if_neg (show ¬op=11 from Z)];refine⟨λh=>?_,λY=>?_⟩;.rw[if_pos h];exact GenK.max2 rfl rfl ⟨_,rfl,rfl,rfl⟩
 rw[if_neg (show ¬op=22 from Y)];refine⟨λh=>?_,λW=>?_⟩;.rw[if_pos h];exact GenK.min2 rfl rfl ⟨_,rfl,rfl,rfl⟩
 rw[if_neg (show ¬op=23 from W)];refine⟨λh=>?_,λh6=>?_⟩;.rw[if_pos h];exact tr rfl
 rw[if_neg (show ¬op=14 from h6)];refine⟨λh=>?_,λh7=>?_⟩;.rw[if_pos h];exact tr rfl
 rw[if_neg (show ¬op=15 from h7)];refine⟨λh=>?_,λh8=>?_⟩;.rw[if_pos h];exact tr rfl
 rw[if_neg (show ¬op=16 from h8)];refine⟨λh=>?_,λO=>?_⟩;.rw[if_pos h];exact tr rfl
 rw[if_neg (show ¬op=17 from O)];refine⟨λh=>?_,λu=>?_⟩;.rw[if_pos h];exact GenK.pan rfl ⟨rfl,rfl⟩
 rw[if_neg (show ¬b=0 from u)];refine⟨λh=>?_,λy=>?_⟩
 .rw[if_pos h];have A:=H4 (b:=b) l;have hw:xW .i64 (a.tdiv b)=a.tdiv b:=EH ⟨by simp[we,zt,zr];omega,by simp[wc,zt,zr];omega⟩;have z:Rs.ok (a.tdiv b)=AR (a.tdiv b):=by unfold AR;rw[if_pos A]
  rw[hw,z];exact⟨u,Tri.mono c263 λ_ _=>out⟩
 .rw[if_neg (show ¬op=12 from y)];exact⟨u,rfl,rfl⟩
end
abbrev Hk:KB:=Ab [0,1,2,2,3,3,3,3,4,4,4,4,4,4,4,4,5,5,5,5,5,5,5,5,5,5,5,5,5,5,5,5,6,6,6,6,6,6,6,6,6,6,6,6,6,6,6,6,6,6,6,6,6,6,6,6,6,6,6,6,6,6,6,6,7,7,7,7,7,7,7,7,7,7,7,7,7,7,7,7,7,7,7,7,7,7,7,7,7,7,7,7,7,7,7,7,7,7,7,7,7,7,7,7,7,7,7,7,7,7,7,7,7,7,7,7,7,7,7,7,7,7,7,7,7,7,7,7,8,8,8,8,8,8,8,8,8,8,8,8,8,8,8,8,8,8,8,8,8,8,8,8,8,8,8,8,8,8,8,8,8,8,8,8,8,8,8,8,8,8,8,8,8,8,8,8,8,8,8,8,8,8,8,8,8,8,8,8,8,8,8,8,8,8,8,8,8,8,8,8,8,8,8,8,8,8,8,8,8,8,8,8,8,8,8,8,8,8,8,8,8,8,8,8,8,8,8,8,8,8,8,8,8,8,8,8,8,8,8,8,8,8,8,8,8,8,8,8,8,8,8,8,8,8,8,8]
def CT(n:Nat):Int:=if n=0 then 0 else(vC n:Int)+1
theorem lenTab_at{n:Nat}(h:n<256):A7 Hk (n:Int)=CT n:=by
 have:((zC 256).all λn=>decide (A7 Hk (n:Int)=CT n))=true:=by kernel_rfl
 simp_all
theorem wrap8{k:Nat}(h:k<256):xW .u8 (k:Int)=k:=by
 rw[show xW .u8 (k:Int)=(k:Int) % 256 by simp[xW,zt,zr]];omega
theorem log2_shift{n k:Nat}(h:2^k<=n):vC n=k+vC (n/2^k):=by
 have z:0<2^k:=vD k;have y:n/2^k≠0:=by
  simp_all
 have u:n≠0:=by omega
 have key:∀j,j<=vC (n/2^k)↔k+j<=vC n:=λj=>by
  rw[vF y,vF u,Nat.le_div_iff_mul_le z,<-Nat.pow_add,Nat.add_comm]
 have l:=(key (vC (n/2^k))).1 (yu _);have r:k<=vC n:=(vF u).2 h;have q:=(key (vC n-k)).2 (by omega);omega
theorem IW{n k:Nat}(h:2^k<=n):CT n=k+CT (n/2^k):=by
 have z:0<2^k:=vD k;have u:n/2^k≠0:=by
  simp_all
 unfold CT;rw[if_neg (by omega),if_neg u,log2_shift h];omega
theorem lenN_small{n:Nat}(h:n<256):0<=CT n/\CT n<=8:=by
 unfold CT;split;.omega
 .rename_i u;have:vC n<8:=(Nat.log2_lt u).2 h;omega
section
variable{V:Mem}
theorem c314{n:Nat}(J:n<=1099511627776):PP 314 [.int .u64 n] V (uI (CT n)):=by
 refine x314 ?_;have shr:∀(k:Nat)(c:Int),min c.toNat wa.bits=k->(n:Int).fdiv (2^(min c.toNat wa.bits))=((n/2^k:Nat):Int):=λk c h=>by rw[h,Ke]
 have u:∀(k c:Nat),k<256->c<=64->CT n=c+CT k->∀v:Int,v=(k:Int)->∀l:Int,l=(c:Int)->(0<=xW .u8 v/\xW .u8 v<(Hk.size:Int))/\IR (A7 Hk (xW .u8 v))/\IR (l+A7 Hk (xW .u8 v))/\(rV (uI (l+A7 Hk (xW .u8 v)))=xY (uI (CT n))/\V=V):=by
  rintro k c z y r _ rfl _ rfl;have N:=lenN_small z;have q:Hk.size=256:=by kernel_rfl
  rw[wrap8 z,lenTab_at z,q,r];exact⟨⟨by omega,by omega⟩,⟨by omega,by omega⟩,⟨by omega,by omega⟩,rfl,rfl⟩
 refine⟨λz=>GenK.shr rfl rfl (by decide) ⟨_,rfl,?_⟩,λz=>⟨λy=>GenK.shr rfl rfl (by decide) ⟨_,rfl,⟨by omega,by omega⟩,?_⟩,λy=>⟨λr=>GenK.shr rfl rfl (by decide) ⟨_,rfl,⟨by omega,by omega⟩,?_⟩,λr=>?_⟩⟩⟩
 .rw[shr 32 _ rfl];have e:=IW (n:=n) (k:=32) (by omega);have Z:n/2^32<=256:=by omega
  refine⟨λh=>by omega,λ_=>⟨λy=>GenK.shr rfl rfl (by decide) ⟨_,rfl,⟨by omega,by omega⟩,?_⟩,λy=>u (n/2^32) 32 (by omega) (by omega) (by omega) _ rfl _ rfl⟩⟩;have H:=IW (n:=n/2^32) (k:=8) (by omega);have:((n/2^32:Nat):Int).fdiv (2^(min (8:Int).toNat wa.bits))=((n/2^32/2^8:Nat):Int):=by
   rw[show min (8:Int).toNat wa.bits=8 from rfl,Ke]
  rw[this];exact u (n/2^32/2^8) 40 (by omega) (by omega) (by omega) _ rfl _ rfl
 .rw[shr 16 _ rfl];have e:=IW (n:=n) (k:=16) (by omega);refine⟨λh=>GenK.shr rfl rfl (by decide) ⟨_,rfl,⟨by omega,by omega⟩,?_⟩,λh=>u (n/2^16) 16 (by omega) (by omega) (by omega) _ rfl _ rfl⟩;have H:=IW (n:=n/2^16) (k:=8) (by omega);have:((n/2^16:Nat):Int).fdiv (2^(min (8:Int).toNat wa.bits))=((n/2^16/2^8:Nat):Int):=by
   rw[show min (8:Int).toNat wa.bits=8 from rfl,Ke]
  rw[this];exact u (n/2^16/2^8) 24 (by omega) (by omega) (by omega) _ rfl _ rfl
 .rw[shr 8 _ rfl];have e:=IW (n:=n) (k:=8) (by omega);exact u (n/2^8) 8 (by omega) (by omega) (by omega) _ rfl _ rfl
 .exact u n 0 (by omega) (by omega) (by omega) _ rfl _ rfl
theorem c264{n:Nat}(u:n<=1099511627776):PP 264 [.int .u64 n] V (uI (CT n)):=by
 refine x264 ?_;exact(c314 u).call ⟨_,rfl,rfl,rfl⟩
end
theorem lenN_log{n:Nat}:max 0 (CT n-1)=(vC n:Int):=by
 unfold CT;split;.rename_i h;subst h;rfl
 .omega
end Go.Proofs
namespace Go.Proofs
open Go Go.Sx
def Df(k:Int×Int):Value:=.agg #[uI k.1,uI k.2]
theorem encK_inj(a b:Int×Int)(h:Df a=Df b):a=b:=by
 obtain⟨a1,a2⟩:=a;obtain⟨b1,b2⟩:=b;unfold Df at h;simpa using h
theorem Qw(a b:Int×Int)(w:World):(Op.equal 379 (Df a) (Df b)).run xV w=.ok (decide (a=b)) w:=by
 obtain⟨a1,a2⟩:=a;obtain⟨b1,b2⟩:=b;have u:xV.stoodInHeld 379=false:=by kernel_rfl
 have p0:∀(x y:Int),(part 3 #[uI x,uI y] 0).run xV w=.ok (uI x) w:=λx y=>by simp[part,zV,vG]
 have p1:∀(x y:Int),(part 3 #[uI x,uI y] 1).run xV w=.ok (uI y) w:=λx y=>by simp[part,zV,vG]
 have e:∀(n:Nat)(x y:Int),(zk (n+1) 3 (uI x) (uI y)).run xV w=.ok (x==y) w:=λn x y=>by
  rw[zk];simp[zV,run_underlying vH]
 rw[Ft,zk];simp only[zV,run_underlying vJ,zW,Df,run_program,u];by_cases z:a1=b1<;>by_cases l:a2=b2<;>simp[<-vK,zV,p0,p1,e 9998,z,l]
open Classical in
theorem NF(k:Int×Int)(w:World):∀(es:List MapEntry)(i:Nat),(∀e∈es,∃a,e.key=Df a)->(vL 379 (Df k) es i).run xV w=.ok ((es.findIdx? λe=>decide (e.key=Df k)).bind λj=>(es[j]?).map λe=>(i+j,e.val)) w
 |[],i,_=>by rw[vL];rfl
 |e::es,i,h=>by
  obtain⟨a,y⟩:=h e (by simp);have l:=NF k w es (i+1) λx r=>h x (by simp[r]);rw[vL];simp only[zV,y,Qw,zW,y5];by_cases u:k=a;.subst u;simp
  .have z:¬Df a=Df k:=λe=>u (encK_inj _ _ e).symm;simp only[u,z,decide_false,Bool.false_eq_true,if_false,l];cases q:List.findIdx? (λe:MapEntry=>decide (e.key=Df k)) es with
   |none=>simp
   |some j=>simp[Nat.add_assoc,Nat.add_comm 1 j]
theorem findNow_key(k:Value):∀(es:List MapEntry) fs (i:Nat),y4 (.struct fs) k es i=some none/\es=[]∨y4 (.struct fs) k es i=none
 |[],fs,i=>.inl ⟨rfl,rfl⟩
 |e::es,fs,i=>.inr (by rw[y4];simp[vM])
open Classical in
theorem keyOf:KeyOf xV 379 Df where
 inj:=encK_inj
 find:=λa es w h=>by
  unfold y8;simp only[zV,run_underlying vJ,zW];rcases findNow_key (Df a) es _ 0 with⟨u,rfl⟩|u;.rw[u];rfl
  .rw[u];have:=NF a w es 0 h;simp only[Nat.zero_add]at this;exact this
 check:=λb a w=>by
  have p0:∀(x y:Int),(part 3 #[uI x,uI y] 0).run xV w=.ok (uI x) w:=λx y=>by simp[part,zV,vG]
  have p1:∀(x y:Int),(part 3 #[uI x,uI y] 1).run xV w=.ok (uI y) w:=λx y=>by simp[part,zV,vG]
  have c:∀(n:Nat)(x:Int),(y9 b (n+1) 3 (uI x)).run xV w=.ok () w:=λn x=>by
   rw[y9];simp[zV,run_underlying vH]
  rw[show(10000:Nat)=9999+1 from rfl,y9];simp[zV,run_underlying vJ,Df,<-vK,p0,p1,c 9998]
 stays:=λa w=>by
  have h:vN 10000 (Df a) (Df a)=true:=by
   unfold Df;rw[show(10000:Nat)=9998+1+1 from rfl];simp[vN]
  unfold vO;rw[if_pos h];rfl
attribute [local irreducible] Go.Sx.Tri
theorem Do{V:Mem}{b:Nat}{c:XQ}{t:Nat}{fr:Nat×Nat}(h:V b=some (.cells c t fr))(j off n:Nat)(u:j+off+n<=c.size):V.rowp (Aa (sa b) j) off n=some ((c.toList.drop (j+off)).take n):=by
 have:=Aj h (j+off) n u;rw[<-this];show V.row (((⟨b,0,none⟩:Addr).add j).add off) n=V.row ((⟨b,0,none⟩:Addr).add (j+off)) n;rw[JI]
theorem LP:H2 76 Fld.row Fld.v 2:=IP Ng
theorem NG:H2 40 Iv.row Iv.v 6:=IP Nh
def mrow(d:Ds)(m:Mm)(kb bb:Nat):XV:=[Go.Sx.vS d.name,d.ts.v,d.gs.v,d.ps.v,d.ms.v,d.is.v,d.qs.v,d.bs.v,m.gs.v,m.ns.v,.map (some kb),.map (some bb)]
structure BI (V0:Mem)(d:Ds)(m:Mm)(p kb bb:Nat)(V:Mem)(kn:Int×Int->Option Int)(bz:Int×Int->Bool):Prop where
 sub:V0.sub V
 at_:V p=some (.cells (mrow d m kb bb).toArray 271 (0,0))
 known:B2 Df V kb λk=>(kn k).map (vP .i64)
 busy:B2 Df V bb λk=>if bz k then some (.bool true)else none
structure Dp (V0:Mem)(d:Ds)(m:Mm)(p kb bb:Nat):Prop where
 good:An d m
 ds:Ds.Ok V0 d
 mm:Mm.Ok V0 m
 p0:V0 p=none
 k0:V0 kb=none
 b0:V0 bb=none
 pk:p≠kb
 pb:p≠bb
 kb:kb≠bb
def CU(kb bb:Nat)(V V':Mem):Prop:=∀c o,c≠kb->c≠bb->V c=some o->V' c=some o
theorem CU.refl{kb bb:Nat}(V:Mem):CU kb bb V V:=λ_ _ _ _ h=>h
theorem CU.trans{kb bb:Nat}{V V' u:Mem}(h:CU kb bb V V')(k:CU kb bb V' u):CU kb bb V u:=λc o z y l=>k c o z y (h c o z y l)
theorem CU.of_sub{kb bb:Nat}{V V':Mem}(h:V.sub V'):CU kb bb V V':=λc o _ _ u=>h c o u
section
variable{V0 V V':Mem}{d:Ds}{m:Mm}{p kb bb:Nat}{kn:Int×Int->Option Int}{bz:Int×Int->Bool}
theorem BI.grow(h:BI V0 d m p kb bb V kn bz)(u:V.sub V'):BI V0 d m p kb bb V' kn bz:=⟨h.sub.trans u,u _ _ h.at_,h.known.sub u,h.busy.sub u⟩
theorem BI.cell(h:BI V0 d m p kb bb V kn bz)(i n:Nat)(hi:i+n<=12):V.rowp (sa p) i n=some (((mrow d m kb bb).drop i).take n):=Aj h.at_ i n hi
theorem BI.cell'(h:BI V0 d m p kb bb V kn bz)(j i n:Nat)(hi:j+i+n<=12):V.rowp (Aa (sa p) j) i n=some (((mrow d m kb bb).drop (j+i)).take n):=Do h.at_ j i n hi
theorem nn{p:Addr}:¬(some p:XI)=none:=nofun
theorem AJ{p:Addr}{n:Nat}:¬Aa (some p) n=none:=nofun
theorem c312{b t:Nat}{s:KB}(u:V b=some (cell (uS s) t)){x:Ms}:PP 312 [x.v,pv b] V (uB (decide (x.name=s))):=by
 refine x312 ?_;exact⟨_,AD u,rfl,rfl⟩
theorem c262(S:Dp V0 d m p kb bb)(h:BI V0 d m p kb bb V kn bz){s:KB}:PP 262 [pv p,uS s] V (uI (mIdx d s)):=by
 refine A6.mk (x262 ?_);refine⟨nn,nn,AJ,d.ms,h.cell 4 1 (by decide),λb z=>?_⟩;have u:=Mem.sub_new z (cell (uS s) 9);exact(idxMs (first:=[]) (caps:=[pv b]) (S.ds.sub (h.sub.trans u)).measures Tryz.call312 (λt=>decide (t.name=s)) (λx _=>c312 Av)).call ⟨_,rfl,rfl,u⟩
theorem c309{b t:Nat}{s:KB}(u:V b=some (cell (uS s) t)){x:Fld}:PP 309 [x.v,pv b] V (uB (decide (x.name=s))):=by
 refine x309 ?_;exact⟨_,AD u,rfl,rfl⟩
theorem c339{b t:Nat}{s:KB}(u:V b=some (cell (uS s) t)){x:Fld}:PP 339 [x.v,pv b] V (uB (decide (x.name=s))):=by
 refine x339 ?_;exact⟨_,AD u,rfl,rfl⟩
theorem c338{i:Int}:PP 338 [uI i] V (.tuple #[uI (if i<0 then 0 else i),uI (if i<0 then 12 else 0)]):=by
 refine x338 ?_;refine⟨λh=>?_,λh=>?_⟩;.rw[if_pos h,if_pos h];exact⟨rfl,rfl⟩
 .rw[if_neg h,if_neg h];exact⟨rfl,rfl⟩
theorem c310{t:Ty}(h:Ty.Ok V t){s:KB}:PP 310 [t.v,uS s] V (.tuple #[uI (if Bu t.fields s<0 then 0 else Bu t.fields s),uI (if Bu t.fields s<0 then 12 else 0)]):=by
 refine A6.mk (x310 ?_);intro b z;have u:=Mem.sub_new z (cell (uS s) 9);refine(LP (first:=[]) (caps:=[pv b]) (h.sub u).fields Tryz.call339 (λt=>decide (t.name=s)) (λx _=>c339 Av)).call ⟨_,rfl,c338.call ⟨_,_,rfl,rfl,u⟩⟩
theorem c259(S:Dp V0 d m p kb bb)(h:BI V0 d m p kb bb V kn bz){T s t:KB}{x:Int}(Y:This d m T x)(W:Bn (AM d T).vars s=t)(l:t≠sE):PP 259 [pv p,uS s,uI x] V (uI (varV d m x s)):=by
 refine A6.mk (x259 ?_);refine⟨λr=>?_,λr=>⟨nn,nn,AJ,m.gs,h.cell 8 1 (by decide),nn,nn,AJ,d.gs,h.cell 2 1 (by decide),λb O=>?_⟩⟩;.unfold varV;rw[if_pos (show s=C3 from r)];exact⟨rfl,Mem.sub.refl _⟩
 have q:=Mem.sub_new O (cell (uS s) 9);have hv:=h.sub.trans q;refine(LP (first:=[]) (caps:=[pv b]) (S.ds.sub hv).globals Tryz.call309 (λt=>decide (t.name=s)) (λx _=>c309 Av)).call ⟨_,rfl,(h.grow q).cell' 8 0 1 (by decide),AJ,nn,nn,?_⟩;rcases var_ok S.good Y W l with⟨g,-⟩|⟨-,i,f,v,H,g2,g3,g4,g5,-⟩;.exact absurd g r
 have H:B1 (λt:Fld=>decide (t.name=s)) d.globals=(i:Int):=H;rw[H];have M:=(yg.1 g3).1;have z:=(S.mm.sub hv).globals;have F:=z.n_eq;obtain⟨y,A,Z,-,I,J,N,u⟩:=z.get (i:=i) (by omega);rw[g3]at Z;cases Z;refine⟨J,N,by omega,_,u,?_,q⟩;show xY (uI v)=_;rw[g5]
theorem c260(S:Dp V0 d m p kb bb)(h:BI V0 d m p kb bb V kn bz){t s ty:KB}(K:Dd d t s=(ty,0)){a:Int}(U:AX d m t a):Tri xV 260 #[pv p,uI a,uS s] V (RB (fldV d m a s) V):=by
 refine Tri.mono (x260 (R:=RB (fldV d m a s) V) ?_) λ_ _ h=>h;refine⟨λY=>GenK.pan rfl ?_,λY=>?_⟩;.unfold fldV;rw[if_pos Y];exact⟨rfl,rfl⟩
 obtain⟨n,i,j,tt,f,v,b1,b2,b3,b4,b5,b6,b7,b8,b9,Z,-,W,-⟩:=fld_ok S.good K U Y;obtain⟨q,rfl⟩:∃q:Nat,a=(q:Int)+1:=⟨(a-1).toNat,by omega⟩;rw[show((q:Int)+1-1)=(q:Int)by omega]at*
 have l:=S.mm.sub h.sub;have r:=S.ds.sub h.sub;have hnn:=l.nodes.n_eq;obtain⟨y,O,C,-,hl2,A,I,H⟩:=l.nodes.get (i:=q) (by omega);rw[wH]at b1;rw[b1]at C;cases C;have htn:=r.types.n_eq;have hjl:=(yg.1 b6).1;obtain⟨z,M,D,-,hl3,F,L,J⟩:=r.types.get (i:=j) (by omega);rw[b6]at D;cases D;have hI:IR ((q:Int)):=⟨by omega,by have:=(l.nodes.succ (i:=q) (by omega)).2;omega⟩;refine⟨nn,nn,AJ,m.ns,h.cell 9 1 (by decide),hI,A,I,by omega,_,_,H,nn,nn,AJ,d.ts,h.cell 1 1 (by decide),?_⟩;rw[b5];refine⟨F,L,by omega,_,_,J,(c310 (r.typesOk tt M)).call ⟨_,_,rfl,?_⟩⟩;rw[b8,if_neg (by omega)];have hv:=(l.nodesOk n O).rows;have hvn:=hv.n_eq;have hil:=(yg.1 Z).1;obtain⟨u,hum,hu,-,hl4,X,B,N⟩:=hv.get (i:=i) (by omega);rw[Z]at hu;cases hu;refine⟨X,B,by omega,_,N,?_,rfl⟩;rw[W];rfl
def Dg(d:Ds)(m:Mm)(x:Int):KB:=if x=0 then sE else((m.nodes[(x-1).toNat]?).bind λn=>(d.types[n.ty.toNat]?).map (·.name)).getD sE
theorem node_at(G:An d m){x:Int}(H:1<=x)(J:x<=(m.nodes.length:Int)):∃(q j:Nat)(n:Nd)(z:Ty),x=(q:Int)+1/\m.nodes[q]?=some n/\n.ty=(j:Int)/\d.types[j]?=some z/\Dg d m x=z.name:=by
 obtain⟨q,rfl⟩:∃q:Nat,x=(q:Int)+1:=⟨(x-1).toNat,by omega⟩;have u:m.nodes[q]?=some (m.nodes[q]'(by omega)):=yf _;obtain⟨-,-,p3,-⟩:=BR G.mem;obtain⟨r,c2⟩:=of_decide_eq_true (p3 _ (xw u));obtain⟨j,y⟩:∃j:Nat,(m.nodes[q]'(by omega)).ty=(j:Int):=⟨_,(vQ r).symm⟩;have l:d.types[j]?=some (d.types[j]'(by omega)):=yf _;refine⟨q,j,_,_,rfl,u,y,l,?_⟩;unfold Dg;rw[if_neg (by omega),show((q:Int)+1-1).toNat=q by omega,u,Option.bind_some,y,wH,l];rfl
theorem c145(S:Dp V0 d m p kb bb)(h:BI V0 d m p kb bb V kn bz){x:Int}(I:0<=x/\x<=(m.nodes.length:Int)):PP 145 [pv p,uI x] V (uS (Dg d m x)):=by
 refine x145 ?_;refine⟨λZ=>?_,λZ=>?_⟩;.unfold Dg;rw[if_pos Z];exact⟨rfl,rfl⟩
 have Z:¬x=0:=Z;obtain⟨q,j,n,K,rfl,b1,b5,b6,b7⟩:=node_at S.good (x:=x) (by omega) I.2;rw[show((q:Int)+1-1)=(q:Int)by omega];have u:=S.mm.sub h.sub;have H:=S.ds.sub h.sub;have M:=u.nodes.n_eq;obtain⟨y,F,O,-,L,J,Y,l⟩:=u.nodes.get (i:=q) (by omega);rw[b1]at O;cases O;have R:=H.types.n_eq;have X:=(yg.1 b6).1;obtain⟨z,B,A,-,C,N,W,r⟩:=H.types.get (i:=j) (by omega);rw[b6]at A;cases A;have D:IR ((q:Int)):=⟨by omega,by have:=(u.nodes.succ (i:=q) (by omega)).2;omega⟩;refine⟨nn,nn,AJ,d.ts,h.cell 1 1 (by decide),nn,nn,AJ,m.ns,h.cell 9 1 (by decide),D,J,Y,by omega,Ai J,_,_,l,?_⟩;rw[b5];refine⟨N,W,by omega,Ai N,_,_,r,?_,rfl⟩;rw[b7]
theorem this_typ(G:An d m){x:Int}(J:0<=x)(H:x<=(m.nodes.length:Int)):This d m (Dg d m x) x:=by
 by_cases l:x=0;.left;unfold Dg;rw[if_pos l];exact⟨rfl,l⟩
 .right;obtain⟨q,j,n,r,rfl,b1,b5,b6,b7⟩:=node_at G (x:=x) (by omega) H;have y:=xw b6;have u:BK d r.name=true:=xg.2 ⟨r,y,decide_eq_true rfl⟩;have z:=F9 G.valid u;refine⟨b7▸u,l,?_⟩;rw[b7];unfold AW;rw[if_neg (D1 z kwInt),if_neg (D1 z kwBool)];refine decide_eq_true (.inr ⟨by omega,by omega,?_⟩);rw[show((q:Int)+1-1).toNat=q by omega,b1];show some n.ty=_;rw[b5,(Fc (BR G.mem).1).2.1 j r b6]
end
theorem g248:IdxP 248 Nd.row Nd.v 2:=by
 intro V l xs g first y Y St W u O A
 refine x248 (a:=l) (b:=.func (.func g) first.toArray y.toArray) ?_;refine AG xs.length St O ?_;intro i b V1 J B Z I;have h:=u i V1 Z;refine⟨λz=>?_,λq=>?_⟩
 .obtain⟨x,hm,M,C,F,H,L,r⟩:=h.get z;refine⟨H,L,z,_,_,r,g,_,_,rfl,Y,Tri.mono (A i x V1 M Z) ?_⟩;rintro e V2 ⟨b,rfl,R,X⟩;exact⟨b,rfl,λN=>.inl ⟨i,rfl,R N⟩,λN=>⟨h.succ z,I F _ _ (X (by simpa using N))⟩⟩
 .have e:i=xs.length:=by have:=(h.done q).2;omega
  simp_all
theorem g186:ConP 186 Nd.row Nd.v 2:=conG g248 x186
theorem c186:ConC 186 Nd.row Nd.v 2:=conC g186
theorem IX(w:World):(zeroValue 3).run xV w=.ok (uI 0) w:=by kernel_rfl
def pmap(d:Ds)(i:Nat)(k:KB):Option Value:=if 0<=BA d k/\BA d k<(i:Int)then some (uI (BA d k))else none
def tmap(d:Ds)(k:KB):Option Value:=if BK d k=true then some (uI (BA d k))else none
section
variable{V:Mem}{d:Ds}{m:Mm}{b:Nat}
theorem idxT_le{i:Nat}{x:Ty}(u:d.types[i]?=some x):0<=BA d x.name/\BA d x.name<=(i:Int):=by
 unfold BA;rcases Cv (λt:Ty=>decide (t.name=x.name)) d.types with⟨-,-,h⟩|⟨j,y,z,H,-,J,-,-,-,l⟩;.grind
 .rw[z];refine⟨by omega,?_⟩;have r:¬i<j:=λq=>by
   have:=List.any_eq_false.1 l x (List.mem_take_iff_getElem.2 ⟨i,by omega,(yg.1 u).2⟩);simp_all
  omega
theorem idxT_at{k:KB}{i:Nat}(h:BA d k=(i:Int)):∃x,d.types[i]?=some x/\x.name=k:=by
 unfold BA at h;rcases Cv (λt:Ty=>decide (t.name=k)) d.types with⟨u,-⟩|⟨j,y,u,z,-,l,r,-⟩;.omega
 grind
theorem pmap_all{k:KB}(i:Nat)(hi:d.types.length<=i):pmap d i k=tmap d k:=by
 unfold pmap tmap;rcases Lw d k with⟨u,z⟩|⟨u,z⟩;.grind
 .obtain⟨j,y⟩:∃j:Nat,BA d k=(j:Int):=⟨(BA d k).toNat,by omega⟩;obtain⟨x,l,-⟩:=idxT_at y;grind
theorem c183{s:KB}:PP 183 [uS s] V (uB (decide (s=Ak)||decide (s=Ay))):=by
 refine x183 ?_;refine⟨λh=>⟨by grind[Ak],rfl⟩,λh=>⟨by rw[decide_eq_false (show ¬s=Ak from h)];rfl,rfl⟩⟩
theorem c184{s:KB}(h:Bf V b (tmap d)):PP 184 [.map (some b),uS s] V (uB (BK d s)):=by
 refine x184 ?_;refine BE.str vR wB IX h ?_;unfold tmap;cases u:BK d s with
 |true=>simp_all
 |false=>simp_all
theorem c182{p t:Nat}(u:V p=some (cell (.map (some b)) t))(h:Bf V b (tmap d)){f:Fld}:PP 182 [f.v,pv p] V (uB (!known d f.ty)):=by
 refine x182 ?_;refine c183.call ⟨_,rfl,λz=>?_,λz=>⟨some b,AD u,(c184 h).call ⟨_,rfl,?_,rfl⟩⟩⟩;.unfold known;grind
 grind[known,Ak,Ay]
theorem c181{p t:Nat}(u:V p=some (cell (.map (some b)) t))(h:Bf V b (tmap d)){l:Sl}{xs:XX}(z:Ae V l 2 (xs.map Fld.row)):PP 181 [l.v,pv p] V (uB (D0 d xs)):=by
 refine x181 ?_;refine(IJ (first:=[]) (caps:=[pv p]) z Tryz.call182 (λf=>!known d f.ty) (λf _=>c182 u h)).call ⟨_,rfl,?_,rfl⟩;grind[D0]
theorem c185{p q t t2:Nat}(u:V p=some (cell (.map (some b)) t))(z:V q=some (cell (.func (.func 181) #[] #[pv p]) t2))(h:Bf V b (tmap d)){y:Ty}(l:Ty.Ok V y):
  PP 185 [y.v,pv q] V (uB (!D0 d y.fields)):=by
 refine x185 ?_;exact⟨.func (.func 181) #[] #[pv p],rfl,AD z,181,_,_,rfl,Tryz.call181,(c181 u h l.fields).callv (first:=[]) (caps:=[pv p]) ⟨_,rfl,rfl,rfl⟩⟩
theorem Hl:hasT d=true↔A8 d=true/\D0 d d.globals=true/\(∀(i:Nat)(x:Ty),d.types[i]?=some x->BA d x.name=(i:Int))/\∀x∈d.types,D0 d x.fields=true:=by
 unfold hasT;rw[zD,zD,GG,and_assoc];refine and_congr_right λ_=>and_congr_right λ_=>⟨λh=>⟨λi x u=>?_,λx u=>?_⟩,λh i x u=>?_⟩;.grind
 .obtain⟨i,z,rfl⟩:=List.mem_iff_getElem.1 u;have:=h i _ (yf z);simp_all
 grind
def Hm(V':Mem)(d:Ds)(mo:XU):Prop:=(hasT d=true/\∃b,mo=some b/\Bf V' b (tmap d))∨(¬hasT d=true/\mo=none)
theorem c136[Tab V](h:Ds.Ok V d):Tri xV 136 #[d.v] V λr V'=>∃W,r=.returned (.map W)/\V.sub V'/\Hm V' d W:=by
 refine x136 ?_;have L:∀{V1:Mem},V.sub V1->¬hasT d=true->(∃W,xY (.map none)=.returned (.map W)/\V.sub V1/\Hm V1 d W):=λz k=>⟨none,rfl,z,.inr ⟨k,rfl⟩⟩;refine(c124 h).call ⟨_,rfl,λhv=>?_,λhv=>L (Mem.sub.refl _) λk=>hv (Hl.1 k).1⟩;refine GenK.makeMap λb hb=>⟨some b,rfl,?_⟩;have z:∀o,V.sub (V.set b o):=λo=>Mem.sub_new hb _;refine AG (mk:=.map) (b0:=none) d.types.length (λi V1=>(∃o,V1=V.set b o)/\Bf V1 b (pmap d i)/\∀(j:Nat)(x:Ty),j<i->d.types[j]?=some x->BA d x.name=(j:Int)) ⟨⟨_,rfl⟩,(Bf.made V b).congr λk=>?_,λ_ _ h=>absurd h (Nat.not_lt_zero _)⟩ ?_;.grind[pmap]
 rintro i b1 _ J hi ⟨⟨o,rfl⟩,hm,hd⟩ hJ;have u:=h.sub (z o);refine⟨λl=>?_,λX=>?_⟩
 .obtain⟨x,hxm,R,hdr,hl,B,hz,O⟩:=u.types.get l;have hle:=idxT_le R;refine⟨B,hz,l,_,_,O,BE.str vR wB IX hm ?_⟩;by_cases hlo:BA d x.name<(i:Int)
  .have e:pmap d i x.name=some (uI (BA d x.name)):=by grind[pmap]
   rw[e];refine⟨_,_,rfl,λ_=>L (z o) λk=>?_,λk=>absurd rfl k⟩;grind[Hl]
  .have e:pmap d i x.name=none:=by grind[pmap]
   rw[e];refine⟨0,false,rfl,(λk=>by cases k),λ_=>Co.str vR wB hm λo2 C=>⟨u.types.succ l,hJ hl _ _ ⟨⟨o2,by rw[Mem.set_set]⟩,C.congr λk=>?_,λj y hj U=>?_⟩⟩⟩
   .by_cases hk:k=x.name
    .subst hk;rw[if_pos rfl];grind[pmap,BA]
    .rw[if_neg hk];unfold pmap;by_cases hki:BA d k=(i:Int);.grind[idxT_at,absurd]
     grind
   grind
 .have A:=(u.types.done X).2;have D:Bf (V.set b o) b (tmap d):=hm.congr λk=>pmap_all i A;have H:∀(j:Nat)(x:Ty),d.types[j]?=some x->BA d x.name=(j:Int):=λj x R=>hd j x (by grind) R;intro p B;have I:=Mem.sub_new B (cell (.map (some b)) 217);have N:=Mem.set_same (V.set b o) p (cell (.map (some b)) 217);have Z:=D.sub I;have M:=u.sub I;refine(c181 N Z M.globals).call ⟨_,rfl,λK=>λq hq=>?_,λK=>L ((z o).trans I) λk=>K (Hl.1 k).2.1⟩;have Y:=Mem.sub_new hq (cell (.func (.func 181) #[] #[pv p]) 179);have S:=Mem.set_same ((V.set b o).set p (cell (.map (some b)) 217)) q (cell (.func (.func 181) #[] #[pv p]) 179);have F:=M.sub Y;refine(c165 (first:=[]) (caps:=[pv q]) F.types Tryz.call185 (λy=>!D0 d y.fields) (λy U=>c185 (Y _ _ N) S (Z.sub Y) (F.typesOk y U))).call ⟨_,rfl,λha=>L ((z o).trans (I.trans Y)) λk=>?_,λha=>⟨_,AD (Y _ _ N),some b,rfl,(z o).trans (I.trans Y),.inl ⟨Hl.2 ⟨hv,K,H,λx R=>?_⟩,b,rfl,Z.sub Y⟩⟩⟩;.grind[xg,Hl]
  simp_all
theorem c249{mo:XU}(Y:Hm V d mo)(F:hasT d=true)(hm:Mm.Ok V m){u:KB}(L:known d u=true){v:Int}:PP 249 [.map mo,m.v,uS u,uI v] V (uB (AW d m u v)):=by
 refine x249 ?_;have R:=hm.nodes.n_eq;obtain⟨b,rfl,W⟩:∃b,mo=some b/\Bf V b (tmap d):=by
  rcases Y with⟨-,h⟩|⟨h,-⟩;.exact h
  simp_all
 have ret:∀{x y:Bool},x=y->xY (.bool x)=EQ y/\V=V:=λh=>by simp_all
 refine⟨λq=>?_,λq=>⟨λH=>?_,λH=>?_⟩⟩;.grind[AW,Ak]
 .grind[AW,Ak,Ay,inr]
 .unfold AW;rw[if_neg (show ¬u=Ak from q),if_neg (show ¬u=Ay from H)];refine⟨λJ=>ret (decide_eq_true (.inl J)).symm,λJ=>⟨λO=>⟨λA=>?_,λA=>ret ?_⟩,λO=>ret ?_⟩⟩
  .obtain⟨i,rfl⟩:∃i:Nat,v=(i:Int)+1:=⟨(v-1).toNat,by omega⟩;have I:((i:Int)+1-1).toNat=i:=by omega
   obtain⟨x,M,X,-,B,r,C,z⟩:=hm.nodes.get (i:=i) (by omega);have N:=Ai (n:=i*2) r;have Z:IR ((i:Int)+1-1):=⟨by omega,by have:=(hm.nodes.succ (i:=i) (by omega)).2;omega⟩;have l:BK d u=true:=by
    grind[known,Ak,Ay]
   rw[I];refine⟨Z,r,by omega,by omega,N,_,_,z,BE.str1 vR wB IX W ?_⟩;unfold tmap;rw[if_pos l];refine⟨_,rfl,JX (k:=1) z (by decide),N,r,by omega,by omega,Z,ret ?_⟩;grind
  .grind
  grind
theorem c188{mo:XU}(I:Hm V d mo)(M:hasT d=true)(hm:Mm.Ok V m){l:Sl}{xs:XX}(q:Ae V l 2 (xs.map Fld.row))(F:D0 d xs=true){s:Sl}{vs:XZ}(hv:Ae V s 1 (vs.map Aw)):PP 188 [.map mo,m.v,l.v,s.v] V (uB (AE d m xs vs)):=by
 refine x188 ?_;have U:=q.n_eq;have h2:=hv.n_eq;refine⟨λL=>?_,λL=>?_⟩
 .refine AG (mk:=.bool) (b0:=false) vs.length (λi V1=>V=V1/\AllI (λi v=>AW d m (tyAt xs i) v) vs i) ⟨rfl,AllI.zero⟩ ?_;rintro i b V1 J hi ⟨rfl,O⟩ R;refine⟨λu=>?_,λX=>?_⟩
  .obtain⟨x,H,hx,-,hl,B,C,r⟩:=q.get u;obtain⟨y,D,A,-,N,Z,Y,z⟩:=hv.get (i:=i) (by omega);have K:tyAt xs i=x.ty:=by grind[tyAt]
   have W:known d x.ty=true:=yK.1 F x H;refine⟨B,C,u,_,_,r,Z,Y,by omega,_,z,(c249 I M hm W).call ⟨_,rfl,λS=>⟨q.succ u,R N _ _ ⟨rfl,O.succ A (by grind)⟩⟩,λS=>?_⟩⟩;unfold AE;rw[Lv A (by grind),vT];simp_all
  .unfold AE;rw[O.all (by omega),decide_eq_true (by omega)];simp_all
 .unfold AE;rw[decide_eq_false (by omega)];simp_all
theorem c187(h:Ds.Ok V d){p t:Nat}(u:V p=some (.cells d.row.toArray t (0,0))){n:Nd}:PP 187 [n.v,pv p] V (uB (!Eg d n)):=by
 refine x187 ?_;have y:=h.types.n_eq;refine⟨λz=>?_,λz=>⟨by simp,_,Aj u 1 1 (by simp[Ds.row]),?_⟩⟩;.unfold Eg;rw[decide_eq_false (by omega)];exact⟨rfl,rfl⟩
 .refine⟨?_,rfl⟩;grind[Eg]
theorem c189(h:Ds.Ok V d)(hm:Mm.Ok V m){mo:XU}(Z:Hm V d mo)(H:hasT d=true){p q r t t2 t3:Nat}(Y:V p=some (cell (.map mo) t))(W:V q=some (.cells m.row.toArray t2 (0,0)))(O:V r=some (.cells d.row.toArray t3 (0,0))){n:Nd}(A:n∈m.nodes)(l:Eg d n=true):
  PP 189 [n.v,pv p,pv q,pv r] V (uB (!AE d m (B3 d n.ty) n.f)):=by
 refine x189 ?_;obtain⟨I,L⟩:=of_decide_eq_true l;have J:=h.types.n_eq;obtain⟨i,N⟩:∃i:Nat,n.ty=(i:Int):=⟨n.ty.toNat,by omega⟩;obtain⟨x,u,M,-,R,z,X,y⟩:=h.types.get (i:=i) (by omega);have F:=Ew M N;rw[F];refine⟨_,AD Y,_,_,Aj W 0 2 (by simp[Mm.row]),by simp,_,Aj O 1 1 (by simp[Ds.row]),z,I,by omega,?_⟩;rw[N];refine⟨Ai z,_,_,y,(c188 Z H hm (h.typesOk x u).fields ((Hl.1 H).2.2.2 x u) (hm.nodesOk n A).rows).call ⟨_,rfl,rfl,rfl⟩⟩
theorem c137(h:Ds.Ok V d)(hm:Mm.Ok V m){mo:XU}(A:Hm V d mo):A6 xV 137 [.map mo,d.v,m.v] V (uB (BX d m)):=by
 refine A6.mk ?_;refine x137 ?_;have Z:=hm.nodes.n_eq;rcases A with⟨y,b,rfl,W⟩|⟨y,rfl⟩;rotate_left
 .refine⟨λ_=>?_,λk=>absurd rfl k⟩;unfold BX;rw[(vU _).mp y];exact⟨rfl,Mem.sub.refl _⟩
 refine⟨(λk=>by cases k),λ_=>⟨λI=>?_,λI=>?_⟩⟩;.unfold BX;rw[decide_eq_false (by omega:¬m.nodes.length<=4096)];simp_all[vT,Bool.false_and,trivial,Mem.sub.refl]
 intro p M;have H:=Mem.sub_new M (.cells d.row.toArray 30 (0,0));have l:=Mem.set_same V p (.cells d.row.toArray 30 (0,0));have z:=hm.sub H;refine(c186 (first:=[]) (caps:=[pv p]) z.nodes Tryz.call187 (λn=>!Eg d n) (λn Z=>c187 (h.sub H) l)).call ⟨_,rfl,λF=>?_,λF=>?_⟩;.grind[BX,Eg]
 have J:m.nodes.all (Eg d)=true:=by
  simp_all
 have Y:Hm (V.set p (.cells d.row.toArray 30 (0,0))) d (some b):=.inl ⟨y,b,rfl,W.sub H⟩;have N:=h.sub H;refine⟨nofun,_,Aj l 2 1 (by simp[Ds.row]),(c188 Y y z N.globals (Hl.1 y).2.1 z.globals).call ⟨_,rfl,λL=>?_,λL=>?_⟩⟩;rotate_left;.grind[BX]
 intro q R;have X:=Mem.sub_new R (cell (.map (some b)) 217);intro r B;have O:=Mem.sub_new B (.cells m.row.toArray 34 (0,0));have u:=X.trans O;refine(c186 (first:=[]) (caps:=[pv q,pv r,pv p]) (z.sub u).nodes Tryz.call189 (λn=>!AE d m (B3 d n.ty) n.f) (λn Z=>?_)).call ⟨_,rfl,?_,H.trans u⟩;.refine c189 (N.sub u) (z.sub u) (mo:=some b) (.inl ⟨y,b,rfl,(W.sub H).sub u⟩) y (O _ _ Av) Av (u _ _ l) Z (yK.1 J n Z)
 grind[BX,AE]
theorem c102[Tab V](h:Ds.Ok V d)(hm:Mm.Ok V m):A6 xV 102 [d.v,m.v] V (uB (BX d m)):=by
 refine A6.mk ?_;refine x102 ?_;refine Tri.mono (c136 h) ?_;rintro _ V' ⟨z,rfl,u,y⟩;exact⟨z,rfl,(c137 (h.sub u) (hm.sub u) y).call ⟨_,rfl,rfl,u⟩⟩
end
def KnOk(d:Ds)(m:Mm)(kn:Int×Int->Option Int):Prop:=∀k v,kn k=some v->∃n,Al d m n k.1 k.2=.ok v
def GL(bz:Int×Int->Bool):Int->Int->Prop:=λa b=>bz (a,b)=true
def Ga(d:Ds)(m:Mm):List (Int×Int):=(zC d.measures.length).flatMap λ(i:Nat)=>(zC (m.nodes.length+1)).map λ(x:Nat)=>((i:Int),(x:Int))
def GM(d:Ds)(m:Mm)(kn:Int×Int->Option Int)(bz:Int×Int->Bool):Nat:=((Ga d m).filter λk=>(kn k).isNone&&!bz k).length
theorem IZ{α:Type}{p q:α->Bool}:∀{l:List α},(∀a∈l,q a=true->p a=true)->(l.filter q).length<=(l.filter p).length
 |[],_=>yu _
 |a::l,h=>by
  have u:=IZ (l:=l) λx z=>h x (yJ _ z);have y:=h a yI;rw[yM,yM];cases r:q a with
  |true=>rw[y r];simpa using u
  |false=>
   cases H:p a with
   |true=>simp;omega
   |false=>simpa using u
theorem Kf{α:Type}{p q:α->Bool}:∀{l:List α},(∀a∈l,q a=true->p a=true)->∀a∈l,p a=true->q a=false->(l.filter q).length<(l.filter p).length
 |[],_,a,u,_,_=>by cases u
 |b::l,h,a,u,y,r=>by
  have H:∀x∈l,q x=true->p x=true:=λx N=>h x (yJ _ N);rw[yM,yM];rcases zJ.1 u with rfl|hm
  .rw[y,r];have:=IZ H;simp;omega
  .have J:=Kf H a hm y r;have Z:=h b yI;cases z:q b with
   |true=>rw[Z z];simpa using J
   |false=>
    cases Y:p b with
    |true=>simp;omega
    |false=>simpa using J
theorem mem_pairs{d:Ds}{m:Mm}{i x:Nat}(hi:i<d.measures.length)(u:x<=m.nodes.length):((i:Int),(x:Int))∈Ga d m:=by
 unfold Ga;rw[List.mem_flatMap];exact⟨i,yo.2 hi,List.mem_map.2 ⟨x,yo.2 (by omega),rfl⟩⟩
theorem unseen_le{d:Ds}{m:Mm}{kn kn':Int×Int->Option Int}{bz:Int×Int->Bool}(h:∀k,kn k≠none->kn' k≠none):GM d m kn' bz<=GM d m kn bz:=by
 refine IZ λa _ u=>?_;simp only[zD,Option.isNone_iff_eq_none]at u⊢;refine⟨?_,u.2⟩;cases z:kn a with
 |none=>rfl
 |some v=>exact absurd u.1 (h a (by rw[z];simp))
structure Cz (V0:Mem)(d:Ds)(m:Mm)(p kb bb:Nat)(V:Mem)(kn:Int×Int->Option Int)(bz:Int×Int->Bool)(g:Nat->Rs)(rs:Rs)(V':Mem):Prop where
 out:Out d m (GL bz) g rs
 keep:CU kb bb V V'
 mach:∃kn' bz',BI V0 d m p kb bb V' kn' bz'/\KnOk d m kn'/\∀v,rs=.ok v->bz'=bz/\∀k,kn k≠none->kn' k≠none
def BM(V0:Mem)(d:Ds)(m:Mm)(p kb bb:Nat)(V:Mem)(kn:Int×Int->Option Int)(bz:Int×Int->Bool)(g:Nat->Rs):RP:=λr V'=>∃rs,r=resR rs/\Cz V0 d m p kb bb V kn bz g rs V'
section
variable{V0 V V1 V2:Mem}{d:Ds}{m:Mm}{p kb bb:Nat}{kn kn':Int×Int->Option Int}{bz:Int×Int->Bool}{g G:Nat->Rs}{h:Nat->Int->Rs}{rs:Rs}
theorem Cz.ok_parts{a:Int}(H:Cz V0 d m p kb bb V kn bz g (.ok a) V1):∃kn',BI V0 d m p kb bb V1 kn' bz/\KnOk d m kn'/\(∀k,kn k≠none->kn' k≠none)/\∃n,g n=.ok a:=by
 obtain⟨kn',bz',u,z,y⟩:=H.mach;obtain⟨rfl,l⟩:=y a rfl;exact⟨kn',u,z,l,H.out⟩
theorem Cz.pure(M:BI V0 d m p kb bb V kn bz)(K:KnOk d m kn)(o:Out d m (GL bz) g rs):Cz V0 d m p kb bb V kn bz g rs V:=⟨o,CU.refl V,kn,bz,M,K,λ_ _=>⟨rfl,λ_ h=>h⟩⟩
theorem Cz.bad{e:Int}(H:Cz V0 d m p kb bb V1 kn bz g (.bad e) V2)(u:V.sub V1)(z:∀n,G n=(g n).bind (h n)):Cz V0 d m p kb bb V kn bz G (.bad e) V2:=
 ⟨(Out.bindBad (h:=h) H.out).congr λn=>(z n).symm,(CU.of_sub u).trans H.keep,by
  obtain⟨a,b,y,l,-⟩:=H.mach;exact⟨a,b,y,l,nofun⟩⟩
theorem Cz.seq{V3:Mem}{a:Int}(H:Cz V0 d m p kb bb V1 kn bz g (.ok a) V2)(r:V.sub V1)(q:∀n,G n=(g n).bind (h n))(J:Mono g)(N:Mono λn=>h n a)(Z:∀k,kn k≠none->kn' k≠none)(u:Cz V0 d m p kb bb V2 kn' bz (λn=>h n a) rs V3):Cz V0 d m p kb bb V kn bz G rs V3:=
 ⟨(Out.bindOk J N H.out u.out).congr λn=>(q n).symm,((CU.of_sub r).trans H.keep).trans u.keep,by
  obtain⟨x,y,Y,W,l⟩:=u.mach;exact⟨x,y,Y,W,λv hv=>⟨(l v hv).1,λk z=>(l v hv).2 k (Z k z)⟩⟩⟩
theorem BM.split{f:FuncId}{args:XQ}{K:Int->Mem->Prop}{R:RP}(H:Tri xV f args V (BM V0 d m p kb bb V kn bz g))(z:∀e V',Cz V0 d m p kb bb V kn bz g (.bad e) V'->R (fltC e) V')(y:∀a V',Cz V0 d m p kb bb V kn bz g (.ok a) V'->K a V'):
  Tri xV f args V λe V'=>(∃v,e=Id v/\K v V')∨∃l,e=.panicked l/\R e V':=
 Tri.mono H λe V' ⟨rs,r,u⟩=>by
  subst r;cases rs with
  |ok a=>exact .inl ⟨a,rfl,y a V' u⟩
  |bad e=>exact .inr ⟨_,rfl,z e V' u⟩
theorem RB.split{f:FuncId}{args:XQ}{K:Int->Mem->Prop}{R:RP}(H:Tri xV f args V (RB rs V))(u:∀e,rs=.bad e->R (fltC e) V)(z:∀a,rs=.ok a->K a V):
  Tri xV f args V λe V'=>(∃v,e=Id v/\K v V')∨∃y,e=.panicked y/\R e V':=
 Tri.mono H λe V' l=>by
  obtain⟨rfl,rfl⟩:=l;cases rs with
  |ok a=>exact .inl ⟨a,rfl,z a rfl⟩
  |bad e=>exact .inr ⟨_,rfl,u e rfl⟩
variable(V0 d m p kb bb)in
def ExprC(N:Nat):Prop:=∀(e:E)(T t:KB)(x:Int) V kn bz,VE e->E.Ok V0 e->Ao d (AM d T) e=(t,0)->This d m T x->BI V0 d m p kb bb V kn bz->KnOk d m kn->GM d m kn bz<=N->
 Tri xV 196 #[pv p,e.v,uI x] V (BM V0 d m p kb bb V kn bz λn=>Au d m (Al d m n) x e)
variable(V0 d m p kb bb)in
def MeasC(N:Nat):Prop:=∀(i:Nat)(ms:Ms)(x:Int) V kn bz,d.measures[i]?=some ms->AX d m ms.ty x->BI V0 d m p kb bb V kn bz->KnOk d m kn->GM d m kn bz<=N->
 Tri xV 261 #[pv p,uI i,uI x] V (BM V0 d m p kb bb V kn bz λn=>Al d m n i x)
theorem zeroBool(w:World):(zeroValue 4).run xV w=.ok (.bool false) w:=by kernel_rfl
open Classical in
theorem measC(S:Dp V0 d m p kb bb)(N:Nat)(ih:∀N',N'<N->ExprC V0 d m p kb bb N'):MeasC V0 d m p kb bb N:=by
 intro i ms x V kn bz Y hx M K hN;refine Tri.mono (x261 (R:=BM V0 d m p kb bb V kn bz λn=>Al d m n i x) ?_) λ_ _ h=>h;have hd:=S.ds.sub M.sub;have hil:=(yg.1 Y).1;have hn:=hd.measures.n_eq;have W:=xw Y;obtain⟨y,-,hy,-,hl,hp,hz,B⟩:=hd.measures.get (i:=i) (by omega);rw[Y]at hy;cases hy;refine⟨nn,nn,AJ,d.ms,M.cell 4 1 (by decide),hp,hz,by omega,_,_,_,_,_,_,_,B,λI=>?_,λI=>⟨nn,nn,_,M.cell 10 1 (by decide),BE.key2 (k:=((i:Int),x)) keyOf vV IX M.known ?_⟩⟩
 .refine⟨.ok ms.nil,rfl,.pure M K ⟨0,?_⟩⟩;show Al d m 0 i x=.ok ms.nil;unfold Al nilM;rw[if_pos I,wH,Y];rfl
 have I:¬x=0:=I;cases C:kn ((i:Int),x)with
 |some v=>
  refine⟨v,true,rfl,λ_=>?_,λk=>absurd rfl k⟩;exact⟨.ok v,rfl,.pure M K (K _ _ C)⟩
 |none=>
  refine⟨0,false,rfl,(λk=>by cases k),λ_=>⟨nn,nn,_,M.cell 11 1 (by decide),BE.key1 (k:=((i:Int),x)) keyOf vW zeroBool M.busy ?_⟩⟩;cases F:bz ((i:Int),x)with
  |true=>
   refine⟨true,rfl,λ_=>GenK.pan rfl ?_,λk=>absurd rfl k⟩;exact⟨.bad 16,rfl,.pure M K (.inr ⟨rfl,.inr ⟨i,x,F,λ_ h=>h⟩⟩)⟩
  |false=>
   refine⟨false,rfl,(λk=>by cases k),λ_=>⟨nn,nn,_,M.cell 11 1 (by decide),Co.key (k:=((i:Int),x)) keyOf vW M.busy λo ho=>?_⟩⟩;obtain⟨c1,c2⟩:=(IV S.good.chk).1 ms W;have O:=F9 S.good.valid c1;have D:AW d m ms.ty x=true:=by
    unfold AX at hx;rw[if_neg (D1 O kwNil)]at hx;exact hx
   obtain⟨r1,r2,-⟩:=LB O D I;obtain⟨u,z⟩:∃u:Int×Int->Bool,u=λk=>bz k||decide (k=((i:Int),x)):=⟨_,rfl⟩;have M1:BI V0 d m p kb bb (V.set bb o) kn u:=⟨M.sub.set S.b0 o,by rw[Mem.set_ne S.pb];exact M.at_,M.known.set S.kb,ho.congr λk=>by
    rw[z];by_cases l:k=((i:Int),x)<;>simp[l]⟩
   have hlt:GM d m kn u<GM d m kn bz:=by
    obtain⟨q,rfl⟩:∃q:Nat,x=(q:Int):=⟨x.toNat,by omega⟩;refine Kf (λa _ ha=>?_) ((i:Int),(q:Int)) (mem_pairs hil (by omega)) (by simp[C,F]) (by simp[z]);rw[z]at ha;simp only[zD,zo,vX]at ha⊢;exact⟨ha.1,ha.2.1⟩
   have J:CU kb bb V (V.set bb o):=λc o' _ L U=>by rw[Mem.set_ne L];exact U
   have hB:∀a b,GL u a b->GL bz a b∨(a=(i:Int)/\b=x):=λa b h=>by
    unfold GL at h⊢;rw[z]at h;simpa using h
   have A:∀{r:Rs},Out d m (GL u) (λn=>Au d m (Al d m n) x ms.x) r->Out d m (GL bz) (λn=>Al d m n i x) r:=λ{r} h=>by
    refine Out.measure I (by rw[wH];exact Y) ?_;cases r with
    |ok v=>exact h
    |bad e=>
     rcases h with h|⟨X,h|⟨a,b,L,U⟩⟩;.exact .inl h
     .exact .inr ⟨X,.inl h⟩
     .exact .inr ⟨X,.inr ⟨a,b,hB a b L,U⟩⟩
   refine BM.split (ih (GM d m kn u) (by omega) ms.x ms.ty Ak x _ kn u (J9 ((GI S.good.valid).2.2.1 ms W)).2.2 (S.ds.measuresOk ms W).x c2 (.inr ⟨c1,I,D⟩) M1 K (yu _)) (λe V2 H=>?_) λv V2 H=>?_
   .obtain⟨kn',bz',q1,q2,-⟩:=H.mach;exact⟨.bad e,rfl,A H.out,J.trans H.keep,kn',bz',q1,q2,nofun⟩
   .obtain⟨kn',M2,K2,hsub,n2,hn2⟩:=H.ok_parts;refine⟨nn,nn,_,M2.cell 11 1 (by decide),GenK.delete (k:=((i:Int),x)) keyOf vW M2.busy rfl rfl λo2 ho2=>⟨rfl,?_⟩⟩;have M3:BI V0 d m p kb bb (V2.set bb o2) kn' bz:=⟨M2.sub.set S.b0 o2,by rw[Mem.set_ne S.pb];exact M2.at_,M2.known.set S.kb,ho2.congr λk=>by
     rw[z];by_cases l:k=((i:Int),x);.rw[l,if_pos rfl,if_neg (by rw[F];decide)]
     .simp[l]⟩
    refine⟨nn,nn,_,M3.cell 10 1 (by decide),Co.key (k:=((i:Int),x)) keyOf vV M3.known λo3 ho3=>?_⟩;have hOk:∃n,Al d m n i x=.ok v:=A H.out;refine⟨.ok v,rfl,hOk,λc o' X L U=>?_,λk=>if k=((i:Int),x)then some v else kn' k,bz,⟨M3.sub.set S.k0 o3,by rw[Mem.set_ne S.pk];exact M3.at_,ho3.congr λk=>?_,M3.busy.set (λe=>S.kb e.symm)⟩,λk w l=>?_,λ_ _=>⟨rfl,λk l=>?_⟩⟩
    .rw[Mem.set_ne X,Mem.set_ne L];exact H.keep c o' X L (J c o' X L U)
    .by_cases l:k=((i:Int),x)<;>simp[l]
    .have l:(if k=((i:Int),x)then some v else kn' k)=some w:=l;by_cases Z:k=((i:Int),x);.rw[if_pos Z]at l;cases l;rw[Z];exact hOk
     .rw[if_neg Z]at l;exact K2 k w l
    .by_cases Z:k=((i:Int),x);.simp[Z]
     .simp only[Z,if_false];exact hsub k l
end
section
variable{V0 V V1 V2 V3:Mem}{d:Ds}{m:Mm}{p kb bb:Nat}{kn:Int×Int->Option Int}{bz:Int×Int->Bool}{b6 b7 b8:Nat}{e:E}{x:Int}{T:KB}
structure Bx (p kb bb:Nat)(V:Mem)(b6 b7 b8:Nat)(e:E)(x:Int):Prop where
 h6:∃t,V b6=some (cell (pv p) t)
 h7:∃t,V b7=some (.cells e.row.toArray t (0,0))
 h8:∃t,V b8=some (cell (uI x) t)
 ne:b6≠kb/\b6≠bb/\b7≠kb/\b7≠bb/\b8≠kb/\b8≠bb
theorem Bx.keep(h:Bx p kb bb V b6 b7 b8 e x)(k:CU kb bb V V1):Bx p kb bb V1 b6 b7 b8 e x:=by
 obtain⟨⟨q,h6⟩,⟨H,h7⟩,⟨J,h8⟩,u,z,y,l,r,n6⟩:=h;exact⟨⟨q,k _ _ u z h6⟩,⟨H,k _ _ y l h7⟩,⟨J,k _ _ r n6 h8⟩,u,z,y,l,r,n6⟩
theorem B2.some{α:Type}{enc:α->Value}{b:Nat}{f:α->Option Value}(h:B2 enc V b f):V b≠none:=by
 obtain⟨es,c,u,-⟩:=h.at_;rw[u];simp
theorem ne_of{b c:Nat}(h:V b=none)(k:V c≠none):b≠c:=λe=>k (e▸h)
theorem Bx.make(M:BI V0 d m p kb bb V kn bz){t6 u z:Nat}(h6:V b6=none)(h7:(V.set b6 (cell (pv p) t6)) b7=none)(h8:((V.set b6 (cell (pv p) t6)).set b7 (.cells e.row.toArray u (0,0))) b8=none):
  Bx p kb bb (((V.set b6 (cell (pv p) t6)).set b7 (.cells e.row.toArray u (0,0))).set b8 (cell (uI x) z)) b6 b7 b8 e x/\V.sub (((V.set b6 (cell (pv p) t6)).set b7 (.cells e.row.toArray u (0,0))).set b8 (cell (uI x) z)):=by
 have y:=Mem.sub_new h6 (cell (pv p) t6);have l:=Mem.sub_new h7 (.cells e.row.toArray u (0,0));have r:=Mem.sub_new h8 (cell (uI x) z);have q:=B2.some M.known;have H:=B2.some M.busy;have up:∀{c:Nat},V c≠none->(V.set b6 (cell (pv p) t6)) c≠none/\((V.set b6 (cell (pv p) t6)).set b7 (.cells e.row.toArray u (0,0))) c≠none:=λ{c} h=>by
  cases J:V c with
  |none=>exact absurd J h
  |some o=>exact⟨by rw[y _ _ J];simp,by rw[l _ _ (y _ _ J)];simp⟩
 exact⟨⟨⟨t6,r _ _ (l _ _ Av)⟩,⟨u,r _ _ Av⟩,⟨z,Mem.set_same _ _ _⟩,ne_of h6 q,ne_of h6 H,ne_of h7 (up q).1,ne_of h7 (up H).1,ne_of h8 (up q).2,ne_of h8 (up H).2⟩,(y.trans l).trans r⟩
theorem c258(M:BI V0 d m p kb bb V kn bz)(N:E.Ok V0 e)(B:Bx p kb bb V b6 b7 b8 e x){i:Nat}{a:E}(z:e.k[i]?=some a){R:RP}
  (H:Tri xV 196 #[pv p,a.v,uI x] V R) (Z:∀r V',R r V'->∃rs,r=resR rs):Tri xV 258 #[uI i,pv b6,pv b7,pv b8] V R:=by
 refine Tri.mono (x258 (R:=R) ?_) λ_ _ h=>h;obtain⟨⟨A,h6⟩,⟨I,h7⟩,⟨F,h8⟩,-⟩:=B;have q:=(N.sub M.sub).rows;have L:=q.n_eq;have X:=(yg.1 z).1;obtain⟨y,-,J,-,Y,W,O,u⟩:=q.get (i:=i) (by omega);rw[z]at J;cases J;refine⟨_,AD h6,nn,e.l,Aj h7 3 1 (by simp[E.row]),W,O,by omega,_,_,_,_,u,_,AD h8,Tri.mono H λr V' h=>?_⟩;obtain⟨rs,rfl⟩:=Z r V' h;cases rs with
 |ok v=>exact .inl ⟨v,rfl,h⟩
 |bad f=>exact .inr ⟨_,rfl,h⟩
theorem BM.res{g:Nat->Rs}{r:Ending}(h:BM V0 d m p kb bb V kn bz g r V1):∃rs,r=resR rs:=by
 obtain⟨rs,h,-⟩:=h;exact⟨rs,h⟩
theorem Ce{F:Int->Int->Rs}{i:Nat}{a:E}(h:e.k[i]?=some a):BB (e.k.map (Au d m F x)) i=Au d m F x a:=J7 h
theorem Kg(G:An d m){t:KB}{v:Int}(h:AX d m t v):-1099511627776<=v/\v<=1099511627776:=by
 unfold AX at h;split at h;.omega
 .unfold AW at h;have u:=(BR G.mem).2.1;split at h;.exact of_decide_eq_true h
  .split at h;.have:=of_decide_eq_true h;omega
   .have:=of_decide_eq_true h;omega
theorem Ag{c a b:Prop}(h:¬c)(u:b):Br c a b:=⟨λk=>absurd k h,λ_=>u⟩
theorem As{c a b:Prop}(h:c)(u:a):Br c a b:=⟨λ_=>u,λk=>absurd h k⟩
theorem exprC(S:Dp V0 d m p kb bb)(N:Nat)(ih:∀N',N'<N->ExprC V0 d m p kb bb N'):ExprC V0 d m p kb bb N:=by
 have hM:=measC S N ih;intro e;induction e using E.ind with
 |h e ihk=>
 intro T t x V kn bz hv he ht hT M K hN;obtain⟨G,hG⟩:∃G:Nat->Rs,G=λn=>Au d m (Al d m n) x e:=⟨_,rfl⟩;rw[<-hG];have O:∀n,G n=C5 d m (Al d m n) x e.op e.n e.s (e.k.map (Au d m (Al d m n) x)):=λn=>by rw[hG];exact GH _ _ _
 have kid:∀{i:Nat}{a:E}{u:KB}{V1:Mem}{kn1:Int×Int->Option Int}{b6 b7 b8:Nat},e.k[i]?=some a->Ao d (AM d T) a=(u,0)->Bx p kb bb V1 b6 b7 b8 e x->BI V0 d m p kb bb V1 kn1 bz->KnOk d m kn1->(∀k,kn k≠none->kn1 k≠none)->
   Tri xV 258 #[uI i,pv b6,pv b7,pv b8] V1 (BM V0 d m p kb bb V1 kn1 bz λn=>Au d m (Al d m n) x a):=λ{i a u V1 kn1 b6 b7 b8} Z hu B M1 K1 W=>by
  have hm:a∈e.k:=xw Z;exact c258 M1 he B Z (ihk a hm T u x V1 kn1 bz (hv.kids a hm) (he.kids a hm) hu hT M1 K1 (yr (unseen_le W) hN)) λ_ _=>BM.res
 have val:∀{a:E}{u:KB}{w:Int},a∈e.k->Ao d (AM d T) a=(u,0)->(∃n,Au d m (Al d m n) x a=.ok w)->AX d m u w:=λhm hu ⟨n,hn⟩=>sound S.good hT (hv.kids _ hm) hu hn;refine Tri.mono (x196 (R:=BM V0 d m p kb bb V kn bz G) ?_) λ_ _ h=>h;have two:∀{a b:E}{u w':KB},(9<=e.op/\e.op<=23/\e.op≠18/\e.op≠19/\e.op≠20/\e.op≠21)->e.k=[a,b]->Ao d (AM d T) a=(u,0)->Ao d (AM d T) b=(w',0)->w196 (sa p) e.op e.n e.s e.l x V (BM V0 d m p kb bb V kn bz G):=by
  intro a b u w' h W Z hb;unfold w196;have Y:e.k[0]?=some a:=by rw[W];rfl
  have h1:e.k[1]?=some b:=by rw[W];rfl
  have y:∀n,G n=(Au d m (Al d m n) x a).bind λw=>(Au d m (Al d m n) x b).bind λz=>AC e.op w z:=λn=>by rw[O,IQ h,Ce Y,Ce h1]
  refine Ag (by omega) (Ag (by omega) (Ag (by omega) (Ag (by omega) (Ag (by omega) (Ag (by omega) (Ag (by omega) (Ag (by omega) (Ag (by omega) (Ag (by omega) (Ag (by omega) (Ag (by omega) ?_)))))))))));intro b6 h6 b7 h7 b8 h8;obtain⟨B,J⟩:=Bx.make (e:=e) (x:=x) M h6 h7 h8;refine BM.split (kid Y Z B (M.grow J) K λ_ h=>h) (λf L H=>⟨_,rfl,H.bad (h:=λn w=>(Au d m (Al d m n) x b).bind λz=>AC e.op w z) J y⟩) λw L H=>?_;obtain⟨A,C,D,q,hw⟩:=H.ok_parts;have B4:=B.keep H.keep;obtain⟨t7,g7⟩:=B4.h7;have mh:Mono λn=>(Au d m (Al d m n) x b).bind λz=>AC e.op w z:=λn n' hn=>Rs.le.bind (Ca x b n n' hn) λ_=>.inr rfl;have seq:∀{rs X},Cz V0 d m p kb bb L A bz (λn=>(Au d m (Al d m n) x b).bind λz=>AC e.op w z) rs X->Cz V0 d m p kb bb V kn bz G rs X:=λh=>H.seq (h:=λn w=>(Au d m (Al d m n) x b).bind λz=>AC e.op w z) J y (Ca x a) mh q h;refine⟨nn,e.op,Aj g7 0 1 (by simp[E.row]),BM.split (kid h1 hb B4 C D q) (λf X I=>⟨_,rfl,seq (I.bad (Mem.sub.refl _) λ_=>rfl)⟩) λz X I=>?_⟩;obtain⟨kn5,M5,K5,hk5,F⟩:=I.ok_parts;obtain⟨t7',g7'⟩:=(B4.keep I.keep).h7;have hva:=Kg S.good (val (xw Y) Z hw);have hvb:=Kg S.good (val (xw h1) hb F);have done:∀rs,rs=AC e.op w z->Cz V0 d m p kb bb V kn bz G rs X:=λrs hr=>seq (I.seq (h:=λ_ z=>AC e.op w z) (Mem.sub.refl _) (λ_=>rfl) (Ca x b) (JY _) hk5 (.pure M5 K5 (by rw[hr];exact Out.const _)));exact⟨Do g7' 0 0 1 (by simp[E.row]),nn,RB.split (c265 hva hvb) (λf hf=>⟨.bad f,rfl,done _ hf.symm⟩) λw2 hw2=>⟨.ok w2,rfl,done _ hw2.symm⟩⟩
 unfold w196;have pure:∀{v:Int},(∀n,G n=.ok v)->BM V0 d m p kb bb V kn bz G (Id v) V:=λ{v} h=>⟨.ok v,rfl,.pure M K ⟨0,h 0⟩⟩;have con:∀(r:Rs),Mono λ_=>r:=JY;cases kind (d:=d) (sc:=AM d T) rfl hv ht with
 |int h hn=>
  refine⟨λ_=>pure λn=>(O n).trans (comb1 (.inl h)),λk=>absurd h k⟩
 |bool h hn=>
  refine⟨λk=>absurd (h.symm.trans k) (by decide),λ_=>⟨λ_=>pure λn=>(O n).trans (comb1 (.inr h)),λk=>absurd h k⟩⟩
 |nil h hn=>
  repeat refine Ag (h▸(by decide)) ?_
  exact As h (pure λn=>(O n).trans (comb3 h))
 |var h hl hne=>
  have fin:TT 259 #[pv p,uS e.s,uI x] V λr V1=>∃v6,r=Id v6/\BM V0 d m p kb bb V kn bz G (Id v6) V1:=(c259 S M hT hl hne).call ⟨_,rfl,pure λn=>(O n).trans (comb4 h)⟩;repeat refine Ag (h▸(by decide)) ?_
  exact As h fin
 |@fld _ u a h W Z hf=>
  have Y:e.k[0]?=some a:=by rw[W];rfl
  have y:∀n,G n=(Au d m (Al d m n) x a).bind λw=>fldV d m w e.s:=λn=>by rw[O,comb5 h,Ce Y]
  repeat refine Ag (h▸(by decide)) ?_
  refine As h ?_;intro b6 h6 b7 h7 b8 h8;obtain⟨B,J⟩:=Bx.make (e:=e) (x:=x) M h6 h7 h8;refine BM.split (kid Y Z B (M.grow J) K λ_ h=>h) (λf L H=>⟨_,rfl,H.bad J y⟩) λw L H=>?_;obtain⟨A,C,D,q,hw⟩:=H.ok_parts;have B4:=B.keep H.keep;obtain⟨⟨t6,g6⟩,⟨t7,g7⟩,-⟩:=B4;have U:=val (xw Y) Z hw;have done:∀rs,rs=fldV d m w e.s->Cz V0 d m p kb bb V kn bz G rs L:=λrs hr=>H.seq J y (Ca x a) (con _) q (.pure C D (by rw[hr];exact Out.const _));refine⟨Do g7 2 0 1 (by simp[E.row]),nn,Do g6 0 0 1 (by simp),RB.split (c260 S C hf U) (λf hf=>⟨.bad f,rfl,done _ hf.symm⟩) λw2 hw2=>⟨.ok w2,rfl,done _ hw2.symm⟩⟩
 |@call u a ms i h W Z hi hms hf=>
  have Y:e.k[0]?=some a:=by rw[W];rfl
  have y:∀n,G n=(Au d m (Al d m n) x a).bind λw=>Al d m n i w:=λn=>by rw[O,comb7 h,Ce Y,hi]
  repeat refine Ag (h▸(by decide)) ?_
  refine As h ?_;refine(c262 S M).call ⟨_,rfl,?_⟩;rw[hi];intro b6 h6 b7 h7 b8 h8;obtain⟨B,J⟩:=Bx.make (e:=e) (x:=x) M h6 h7 h8;refine BM.split (kid Y Z B (M.grow J) K λ_ h=>h) (λf L H=>⟨_,rfl,H.bad (h:=λn w=>Al d m n i w) J y⟩) λw L H=>?_;obtain⟨A,C,D,q,hw⟩:=H.ok_parts;obtain⟨⟨t6,g6⟩,-⟩:=B.keep H.keep;have U:=Ey S.good.valid hf (val (xw Y) Z hw);refine⟨Do g6 0 0 1 (by simp),BM.split (hM i ms w L A bz hms U C D (yr (unseen_le q) hN)) (λf X I=>⟨_,rfl,H.seq J y (Ca x a) (Lz i w) q I⟩) λw2 X I=>⟨.ok w2,rfl,H.seq J y (Ca x a) (Lz i w) q I⟩⟩
 |@neg a h W Z=>
  have Y:e.k[0]?=some a:=by rw[W];rfl
  have y:∀n,G n=(Au d m (Al d m n) x a).bind λw=>AR (-w):=λn=>by rw[O,comb8 h,Ce Y]
  repeat refine Ag (h▸(by decide)) ?_
  refine As h ?_;intro b6 h6 b7 h7 b8 h8;obtain⟨B,J⟩:=Bx.make (e:=e) (x:=x) M h6 h7 h8;refine BM.split (kid Y Z B (M.grow J) K λ_ h=>h) (λf L H=>⟨_,rfl,H.bad J y⟩) λw L H=>?_;obtain⟨A,C,D,q,hw⟩:=H.ok_parts;have U:=Cw.1 (val (xw Y) Z hw);have done:∀rs,rs=AR (0-w)->Cz V0 d m p kb bb V kn bz G rs L:=λrs hr=>H.seq J y (Ca x a) (con _) q (.pure C D (by rw[hr,Int.zero_sub];exact Out.const _));refine⟨⟨by omega,by omega⟩,RB.split c263 (λf hf=>⟨.bad f,rfl,done _ hf.symm⟩) λw2 hw2=>⟨.ok w2,rfl,done _ hw2.symm⟩⟩
 |@not a h W Z=>
  have Y:e.k[0]?=some a:=by rw[W];rfl
  have y:∀n,G n=(Au d m (Al d m n) x a).bind λw=>.ok (1-w):=λn=>by rw[O,comb18 h,Ce Y]
  repeat refine Ag (h▸(by decide)) ?_
  refine As h ?_;intro b6 h6 b7 h7 b8 h8;obtain⟨B,J⟩:=Bx.make (e:=e) (x:=x) M h6 h7 h8;refine BM.split (kid Y Z B (M.grow J) K λ_ h=>h) (λf L H=>⟨_,rfl,H.bad J y⟩) λw L H=>?_;obtain⟨A,C,D,q,hw⟩:=H.ok_parts;have U:=C6.1 (val (xw Y) Z hw);exact⟨⟨by omega,by omega⟩,.ok (1-w),rfl,H.seq J y (Ca x a) (con _) q (.pure C D (Out.const _))⟩
 |@log a h W Z=>
  have Y:e.k[0]?=some a:=by rw[W];rfl
  have y:∀n,G n=(Au d m (Al d m n) x a).bind λw=>.ok (Bv w):=λn=>by rw[O,comb24 h,Ce Y]
  repeat refine Ag (h▸(by decide)) ?_
  refine As h ?_;intro b6 h6 b7 h7 b8 h8;obtain⟨B,J⟩:=Bx.make (e:=e) (x:=x) M h6 h7 h8;refine BM.split (kid Y Z B (M.grow J) K λ_ h=>h) (λf L H=>⟨_,rfl,H.bad J y⟩) λw L H=>?_;obtain⟨A,C,D,q,hw⟩:=H.ok_parts;have U:=Cw.1 (val (xw Y) Z hw);refine GenK.max2 rfl rfl ⟨_,rfl,?_⟩;rw[show(if(0:Int)<w then w else 0)=(w.toNat:Int)by split<;>omega];have hb:vC w.toNat<64∨w.toNat=0:=by
   by_cases h:w.toNat=0;.exact .inr h
   .exact .inl ((Nat.log2_lt h).2 (by omega))
  have hlen:0<=CT w.toNat/\CT w.toNat<=64:=by
   unfold CT;rcases hb with h|h;.split<;>omega
   .rw[if_pos h];omega
  refine⟨H7 _ (by omega),(c264 (by omega)).call ⟨_,rfl,⟨by omega,by omega⟩,GenK.max2 rfl rfl ⟨_,rfl,?_⟩⟩⟩;have hlog:=lenN_log (n:=w.toNat);rw[show(if(0:Int)<CT w.toNat-1 then CT w.toNat-1 else 0)=Bv w by unfold Bv;rw[<-hlog];split<;>omega];exact⟨.ok (Bv w),rfl,H.seq J y (Ca x a) (con _) q (.pure C D (Out.const _))⟩
 |@and a b h W Z hb=>
  have Y:e.k[0]?=some a:=by rw[W];rfl
  have h1:e.k[1]?=some b:=by rw[W];rfl
  have y:∀n,G n=(Au d m (Al d m n) x a).bind λw=>if w=0 then .ok 0 else Au d m (Al d m n) x b:=λn=>by rw[O,comb19 h,Ce Y,Ce h1]
  repeat refine Ag (h▸(by decide)) ?_
  refine As h ?_;intro b6 h6 b7 h7 b8 h8;obtain⟨B,J⟩:=Bx.make (e:=e) (x:=x) M h6 h7 h8;refine BM.split (kid Y Z B (M.grow J) K λ_ h=>h) (λf L H=>⟨_,rfl,H.bad (h:=λn w=>if w=0 then .ok 0 else Au d m (Al d m n) x b) J y⟩) λw L H=>?_;obtain⟨A,C,D,q,hw⟩:=H.ok_parts;have seq:∀{rs X},Cz V0 d m p kb bb L A bz (λn=>if w=0 then .ok 0 else Au d m (Al d m n) x b) rs X->Mono (λn=>if w=0 then .ok 0 else Au d m (Al d m n) x b)->Cz V0 d m p kb bb V kn bz G rs X:=λh mh=>H.seq (h:=λn w=>if w=0 then .ok 0 else Au d m (Al d m n) x b) J y (Ca x a) mh q h;refine⟨λF=>?_,λF=>?_⟩
  .have F:w=0:=F;simp only[F,if_true]at seq;exact⟨.ok 0,rfl,seq (.pure C D (Out.const _)) (con _)⟩
  .have F:¬w=0:=F;simp only[F,if_false]at seq;exact BM.split (kid h1 hb (B.keep H.keep) C D q) (λf X I=>⟨_,rfl,seq I (Ca x b)⟩) λw2 X I=>⟨.ok w2,rfl,seq I (Ca x b)⟩
 |@or a b h W Z hb=>
  have Y:e.k[0]?=some a:=by rw[W];rfl
  have h1:e.k[1]?=some b:=by rw[W];rfl
  have y:∀n,G n=(Au d m (Al d m n) x a).bind λw=>if w=0 then Au d m (Al d m n) x b else .ok 1:=λn=>by rw[O,comb20 h,Ce Y,Ce h1]
  repeat refine Ag (h▸(by decide)) ?_
  refine As h ?_;intro b6 h6 b7 h7 b8 h8;obtain⟨B,J⟩:=Bx.make (e:=e) (x:=x) M h6 h7 h8;refine BM.split (kid Y Z B (M.grow J) K λ_ h=>h) (λf L H=>⟨_,rfl,H.bad (h:=λn w=>if w=0 then Au d m (Al d m n) x b else .ok 1) J y⟩) λw L H=>?_;obtain⟨A,C,D,q,hw⟩:=H.ok_parts;have seq:∀{rs X},Cz V0 d m p kb bb L A bz (λn=>if w=0 then Au d m (Al d m n) x b else .ok 1) rs X->Mono (λn=>if w=0 then Au d m (Al d m n) x b else .ok 1)->Cz V0 d m p kb bb V kn bz G rs X:=λh mh=>H.seq (h:=λn w=>if w=0 then Au d m (Al d m n) x b else .ok 1) J y (Ca x a) mh q h;refine⟨λF=>?_,λF=>?_⟩
  .have F:w=0:=F;simp only[F,if_true]at seq;exact BM.split (kid h1 hb (B.keep H.keep) C D q) (λf X I=>⟨_,rfl,seq I (Ca x b)⟩) λw2 X I=>⟨.ok w2,rfl,seq I (Ca x b)⟩
  .have F:¬w=0:=F;simp only[F,if_false]at seq;exact⟨.ok 1,rfl,seq (.pure C D (Out.const _)) (con _)⟩
 |@cond a b c _ u w' h W Z hb hc hu hw=>
  have Y:e.k[0]?=some a:=by rw[W];rfl
  have h1:e.k[1]?=some b:=by rw[W];rfl
  have h2:e.k[2]?=some c:=by rw[W];rfl
  have y:∀n,G n=(Au d m (Al d m n) x a).bind λw=>if w=0 then Au d m (Al d m n) x c else Au d m (Al d m n) x b:=λn=>by rw[O,comb21 h,Ce Y,Ce h1,Ce h2]
  repeat refine Ag (h▸(by decide)) ?_
  refine As h ?_;intro b6 h6 b7 h7 b8 h8;obtain⟨B,J⟩:=Bx.make (e:=e) (x:=x) M h6 h7 h8;refine BM.split (kid Y Z B (M.grow J) K λ_ h=>h) (λf L H=>⟨_,rfl,H.bad (h:=λn w=>if w=0 then Au d m (Al d m n) x c else Au d m (Al d m n) x b) J y⟩) λw L H=>?_;obtain⟨A,C,D,q,hw⟩:=H.ok_parts;have seq:∀{rs X},Cz V0 d m p kb bb L A bz (λn=>if w=0 then Au d m (Al d m n) x c else Au d m (Al d m n) x b) rs X->Mono (λn=>if w=0 then Au d m (Al d m n) x c else Au d m (Al d m n) x b)->Cz V0 d m p kb bb V kn bz G rs X:=λh mh=>H.seq (h:=λn w=>if w=0 then Au d m (Al d m n) x c else Au d m (Al d m n) x b) J y (Ca x a) mh q h;refine⟨λF=>?_,λF=>?_⟩
  .have F:w=0:=F;simp only[F,if_true]at seq;exact BM.split (kid h2 hc (B.keep H.keep) C D q) (λf X I=>⟨_,rfl,seq I (Ca x c)⟩) λw2 X I=>⟨.ok w2,rfl,seq I (Ca x c)⟩
  .have F:¬w=0:=F;simp only[F,if_false]at seq;exact BM.split (kid h1 hb (B.keep H.keep) C D q) (λf X I=>⟨_,rfl,seq I (Ca x b)⟩) λw2 X I=>⟨.ok w2,rfl,seq I (Ca x b)⟩
 |eq h W Z hb=>exact two (by omega) W Z hb
 |cmp h W Z hb=>exact two (by omega) W Z hb
 |ari h W Z hb=>exact two (by omega) W Z hb
theorem exprAll(S:Dp V0 d m p kb bb):∀N,ExprC V0 d m p kb bb N:=λN=>yx N λN u=>exprC S N u
end
end Go.Proofs
namespace Go.Sx
open Go
section
variable{P:Program}{n:Nat}{ops:XW}{i:Nat}{o:Oper}{rest:XA}{Q:Exit->Act->World->Prop}{a:Act}{w:World}
theorem Gb(u:o.guard=none):yX o (yielded ops a.tmps)=true:=by simp[yX,u]
theorem step_value{v:Value}(z:ops[i]?=some o)(y:o.guard=none)(u:(execOp a.eval o).run P w=.ok (.value v) w)(k:wpOpsIn (AB none) n P ops Q rest (a.put o.dst v) w):wpOpsIn (AB none) n P ops Q (i::rest) a w:=by
 rw[wpOpsIn_cons];unfold wpOpIn;simp only[z];rw[if_pos (Gb y)];refine⟨λ_ _=>trivial,?_⟩;show vY _ _ _ _ _ _ _ ((execOp a.eval o).run P w);rw[u];exact k
theorem step_defer{d:Deferred}(z:ops[i]?=some o)(y:o.guard=none)(u:(execOp a.eval o).run P w=.ok (.defer d) w)(k:wpOpsIn (AB none) n P ops Q rest (({a with defers:=d::a.defers}:Act).put o.dst undef) w):wpOpsIn (AB none) n P ops Q (i::rest) a w:=by
 rw[wpOpsIn_cons];unfold wpOpIn;simp only[z];rw[if_pos (Gb y)];refine⟨λ_ _=>trivial,?_⟩;show vY _ _ _ _ _ _ _ ((execOp a.eval o).run P w);rw[u];exact k
theorem step_call{f:FuncId}{args:XQ}{V:Mem}{R:Ending->Mem->Prop}(y:ops[i]?=some o)(l:o.guard=none)(u:(execOp a.eval o).run P w=.ok (.enter f args) w)(r:V.le w)(H:Tri P f args V R)
  (q:∀z V' w',R (.panicked z) V'->Ax V w V' w'->Q (.panic z) a w') (J:∀v V' w',R (.returned v) V'->Ax V w V' w'->wpOpsIn (AB none) n P ops Q rest (a.put o.dst v) w') (N:∀V',¬R .outgrown V'):wpOpsIn (AB none) n P ops Q (i::rest) a w:=by
 rw[wpOpsIn_cons];unfold wpOpIn;simp only[y];rw[if_pos (Gb l)];refine⟨λ_ _=>trivial,?_⟩;show vY _ _ _ _ _ _ _ ((execOp a.eval o).run P w);rw[u];refine⟨λh=>by simp[AB,wJ]at h,LC.2 (Gu (H w r) ?_)⟩;grind
theorem run_callv{c:Call}{fv:Operand}{f:FuncId}{first caps args:XQ}(z:o.op=.call c)(hc:c.callee=.value fv)(y:a.eval fv=.func (.func f) first caps)(u:c.args.map a.eval=args)(l:∀args w,(callFunc f args).run P w=.ok (.enter f args) w):
  (execOp a.eval o).run P w=.ok (.enter f (first++args++caps)) w:=by
 grind[execOp,resolve,yQ,invoke]
def Rec(u:FrameMode)(v:Value)(y:FrameMode):Prop:=
 match u with
 |.panicking ({v:=l,recovered:=false,goexit:=false}::z)=>v=l/\y=.panicking ({v:=l,recovered:=true}::z)
 |_=>v=.nilIface/\y=u
theorem Qx{f:FuncId}{fn:Func}{x y:Code}{id:Nat}{r N:Oper}{args:XQ}{u:FrameMode}{R:Ending->FrameMode->World->Prop}{at0:Array TypeId}{t3 t6:Nat}(C:P.funcs[f]?=some fn)(D:fn.body=some (.seq x y))(K:x=.region id #[r,N] false)
  (S:r.op=.call {callee:=.builtin .recover,args:=#[],argTypes:=at0}) (F:r.dst=some t6) (U:r.guard=none) (Y:N.op=.assign (.tmp t6)) (d1:N.dst=some t3) (g1:N.guard=none) (h6:t6<fn.ntmps) (hd:args.size<=fn.ntmps)
  (H:∀(v:Value)(J:FrameMode),Rec u v J->
   y.wpIn (AB none) n P (λe W w'=>(e=.normal∨e=.ret)/\W.defers=[]/\∃v,(results fn W.tmps).run P w'=.ok v w'/\R (.returned v) J w') ((({tmps:=args++wM (fn.ntmps-args.size) undef,defers:=[]}:Act).put (some t6) v).put (some t3) v) w):
  CallsDIn (AB none) n P f args u w R:=by
 refine callsDIn_of_wpSIn C D trivial λl cs hu=>?_;refine wpSIn_seq ?_;subst K;refine wpSIn_region ?_;have O:∀a:Act,(execOp a.eval r).run P w=.ok .recover w:=λa=>by
  unfold execOp;simp[S,resolve,invoke,builtin]
 have A:∀a:Act,(execOp a.eval N).run P w=.ok (.value (a.eval (.tmp t6))) w:=λa=>by
  unfold execOp;simp[Y]
 have L:∀(v:Value)(J:FrameMode)(q:List Frame),Rec u v J->q={l with mode:=J}::cs->
   wpOpsSIn (AB none) n P #[r,N] (Exit.thenS (Code.wpSIn (AB none) n P y (bodyPostS P fn l cs R)) (bodyPostS P fn l cs R)) [1] (({tmps:=args++wM (fn.ntmps-args.size) undef,defers:=[]}:Act).put r.dst v) q w:=λv J q hv Z=>by
  rw[wpOpsSIn.eq_2];simp only[vZ,List.getElem?_cons_succ,xm];refine⟨λ_ _=>trivial,?_⟩;have hw:=Gb (ops:=#[r,N]) (a:=(({tmps:=args++wM (fn.ntmps-args.size) undef,defers:=[]}:Act).put r.dst v)) g1;rw[if_pos hw,A];simp only;rw[wpOpsSIn.eq_1];show Code.wpSIn (AB none) n P y (bodyPostS P fn l cs R) _ q w;have e:(({tmps:=args++wM (fn.ntmps-args.size) undef,defers:=[]}:Act).put r.dst v).eval (.tmp t6)=v:=by
   rw[F];exact Fx (a:={tmps:=args++wM (fn.ntmps-args.size) undef,defers:=[]}) (v:=v) (by simp;omega)
  rw[e,F,d1];refine wpSIn_of_wpIn rfl (wpIn_mono (H v J hv) ?_);rintro e W w' ⟨he,Y,I,X,B⟩;rcases he with rfl|rfl;.exact⟨Y,J,Z,I,X,B⟩
  .exact⟨Y,J,Z,I,X,B⟩
 show wpOpsSIn _ _ _ _ _ [0,1] _ _ _;rw[wpOpsSIn.eq_2];simp only[vZ,xm];refine⟨λ_ _=>trivial,?_⟩;have hw:=Gb (ops:=#[r,N]) (a:=({tmps:=args++wM (fn.ntmps-args.size) undef,defers:=[]}:Act)) U;simp only at hw;rw[if_pos hw,O];simp only;unfold recoverD;split
 .rename_i v q z;simp only at z;split at z
  .rename_i I M hm;simp only[Option.some.injEq,Prod.mk.injEq]at z;obtain⟨rfl,rfl⟩:=z;rw[hu]at hm;exact L _ _ _ (by unfold Rec;rw[hm];exact⟨rfl,rfl⟩) rfl
  .cases z
 .rename_i z;simp only at z;split at z;.cases z
  .rename_i hm;refine L _ u _ ?_ (by cases l;simp only at hu;subst hu;rfl);rw[hu]at hm;unfold Rec;split;.exact absurd rfl (hm _ _)
   .exact⟨rfl,rfl⟩
end
end Go.Sx
namespace Go.Proofs
open Go Go.Sx
attribute [local irreducible] Go.Sx.Tri
theorem GenK.neqNil{V:Mem}{x:Operand}{t:TypeId}{v:Value}{ty:Nat}{vals:Operand->Value}(u:vals x=.iface t v)(z:vals (.const .nilIface)=.nilIface){q:Value->Mem->Prop}(y:q (.bool true) V):GenK xV (.binOp .neq 20 x (.const .nilIface) 20) ty vals V q:=by
 intro w hw;refine⟨_,w,V,?_,Ax.refl hw,y⟩;have l:(Op.equal 20 (.iface t v) .nilIface).run xV w=.ok false w:=by
  rw[Ft,zk];simp[zV,run_underlying vz]
 unfold execOp;simp[u,z,binOp,eqGuard,zV,l]
theorem GenK.eqNilNil{V:Mem}{x:Operand}{ty:Nat}{vals:Operand->Value}(u:vals x=.nilIface)(z:vals (.const .nilIface)=.nilIface){q:Value->Mem->Prop}(y:q (.bool false) V):GenK xV (.binOp .neq 20 x (.const .nilIface) 20) ty vals V q:=by
 intro w hw;refine⟨_,w,V,?_,Ax.refl hw,y⟩;have l:(Op.equal 20 .nilIface .nilIface).run xV w=.ok true w:=by
  rw[Ft,zk];simp[zV,run_underlying vz]
 unfold execOp;simp[u,z,binOp,eqGuard,zV,l]
theorem GenK.assertOk{P:Program}{V:Mem}{x:Operand}{t u:TypeId}{ts:Array Field}{v:Value}{ty:Nat}{vals:Operand->Value}(z:P.underlying t=some (.struct ts))(y:vals x=.iface t v){q:Value->Mem->Prop}(l:q (.tuple #[v,.bool true]) V):GenK P (.typeAssert x u t true) ty vals V q:=by
 intro w hw;refine⟨_,w,V,?_,Ax.refl hw,l⟩;unfold execOp;simp[y,Instr.typeAssert,zV,run_underlying z]
theorem GenK.clear{P:Program}{V:Mem}{x:Operand}{t k e:TypeId}{b:Nat}{α:Type}{enc:α->Value}{f:α->Option Value}{ty:Nat}{vals:Operand->Value}(z:P.underlying t=some (.map k e))(y:vals x=.map (some b))(hm:B2 enc V b f){q:Value->Mem->Prop}
  (l:∀o,B2 enc (V.set b o) b (λ_=>none)->q (.tuple #[]) (V.set b o)):GenK P (.call {callee:=.builtin .clear,args:=#[x],argTypes:=#[t]}) ty vals V q:=by
 intro w hw;obtain⟨es,c,u,r,H,J⟩:=hm.at_;refine⟨_,_,V.set b (.map #[] c),?_,Ax.put hw u,l _ ⟨#[],c,Mem.set_same _ _ _,by simp,by simp,by simp[DF]⟩⟩;unfold execOp;simp only[resolve,invoke,builtin,zV,zX,zW,xP,zI,yZ,y,Builtin.clear_];simp[zV,run_underlying z,MapKept.run_getObj_map (hw _ _ u),MapKept.run_setObj_map _ (hw _ _ u)]
noncomputable def CG:Oper:={ dst:=none,op:=.move (.tmp 0),type:=0,pos:= "",after:=#[],guard:=none}
noncomputable def tryX:Code:=match AF vy with|.seq x _=>x|c=>c
noncomputable def tryY:Code:=match AF vy with|.seq _ y=>y|c=>c
theorem tryBody:(vy).body=some (.seq tryX tryY):=by kernel_rfl
theorem tryX_eq:tryX=.region 0 #[(Cq tryX).getD 0 CG,(Cq tryX).getD 1 CG] false:=by kernel_rfl
def valRs:Rs->Int|.ok v=>v|.bad _=>0
def errRs:Rs->Int|.ok _=>0|.bad e=>e
section
variable{V0 V:Mem}{d:Ds}{m:Mm}{p kb bb:Nat}{kn:Int×Int->Option Int}{bz:Int×Int->Bool}
structure TryM (V0:Mem)(d:Ds)(m:Mm)(p kb bb b2 b4 b5:Nat)(V:Mem)(kn:Int×Int->Option Int)(bz:Int×Int->Bool)(x4 x5:Int):Prop where
 mach:BI V0 d m p kb bb V kn bz
 c2:∃t,V b2=some (cell (pv p) t)
 c4:∃t,V b4=some (cell (uI x4) t)
 c5:∃t,V b5=some (cell (uI x5) t)
theorem tryLate(S:Dp V0 d m p kb bb){b2 b4 b5:Nat}{x4 x5:Int}(T:TryM V0 d m p kb bb b2 b4 b5 V kn bz x4 x5)(n4:b4≠b5/\b4≠b2/\b5≠b2/\b4≠p/\b5≠p/\b4≠kb/\b5≠kb/\b4≠bb/\b5≠bb/\V0 b4=none/\V0 b5=none/\b2≠bb){e:Int}:
  AS xV 23 c257a [(0,pv b4),(1,pv b5),(2,pv b2),(3,fltV e)] [] V λ_ V'=>TryM V0 d m p kb bb b2 b4 b5 V' kn (λ_=>false) 0 e/\∀c o,c≠b4->c≠b5->c≠bb->V c=some o->V' c=some o:=by
 obtain⟨u,z,y,H,J,N,Z,l,r,A,I,Y⟩:=n4;obtain⟨M,⟨t2,c2⟩,⟨W,c4⟩,⟨O,c5⟩⟩:=T;refine s257a (d:=fltV e) ?_;unfold w257a;refine GenK.neqNil rfl rfl ⟨true,rfl,λ_=>?_,λk=>absurd rfl k⟩;refine GenK.assertOk wh rfl ⟨e,true,rfl,λ_=>?_,λk=>absurd rfl k⟩;refine Am.cell c4 (Am.cell (by rw[Mem.set_ne u.symm];exact c5) ?_);have q:BI V0 d m p kb bb ((V.set b4 (cell (uI 0) W)).set b5 (cell (uI e) O)) kn bz:=
  ⟨(M.sub.set A _).set I _,by rw[Mem.set_ne J.symm,Mem.set_ne H.symm];exact M.at_,(M.known.set N.symm).set Z.symm,(M.busy.set l.symm).set r.symm⟩
 refine⟨_,AD (by rw[Mem.set_ne y.symm,Mem.set_ne z.symm];exact c2),nn,nn,_,q.cell 11 1 (by decide),GenK.clear vW rfl q.busy λo F=>⟨rfl,_,rfl,?_,?_⟩⟩
 .refine⟨⟨q.sub.set S.b0 o,by rw[Mem.set_ne S.pb];exact q.at_,q.known.set S.kb,F.congr λ_=>rfl⟩,⟨t2,?_⟩,⟨W,?_⟩,⟨O,?_⟩⟩;.rw[Mem.set_ne Y,Mem.set_ne y.symm,Mem.set_ne z.symm];exact c2
  .rw[Mem.set_ne l,Mem.set_ne u];exact Mem.set_same _ _ _
  .rw[Mem.set_ne r];exact Mem.set_same _ _ _
 .intro c C L R X B;rw[Mem.set_ne X,Mem.set_ne R,Mem.set_ne L];exact B
end
noncomputable def Gc:Code:=(flat (AF vx)).getD 1 .skip
noncomputable def tryR2:Code:=(flat (AF vx)).getD 2 .skip
theorem try_flat:flat (AF vx)=c194a++[Gc,tryR2,.ret]:=by kernel_rfl
theorem tryR1_eq:Gc=.region 1 #[(Cq Gc).getD 0 CG,(Cq Gc).getD 1 CG] false:=by kernel_rfl
theorem tryR2_eq:tryR2=.region 2 Fh false:=by kernel_rfl
theorem tryR2_size:(Fh).size=4:=by kernel_rfl
theorem tryY_flat:flat tryY=c257a:=by kernel_rfl
section
variable{V0 V:Mem}{d:Ds}{m:Mm}{p kb bb:Nat}{kn:Int×Int->Option Int}{g:Nat->Rs}
theorem NH{P:Program}{a:Act}{o:Oper}{f:Fn}{first caps:Array Operand}{w:World}(u:o.op=.makeFunc f first caps):(execOp a.eval o).run P w=.ok (.value (.func f (first.map a.eval) (caps.map a.eval))) w:=by
 unfold execOp;simp[u,Instr.makeFunc]
theorem run_move{P:Program}{a:Act}{o:Oper}{x:Operand}{w:World}(u:o.op=.move x):(execOp a.eval o).run P w=.ok (.value (a.eval x)) w:=by
 unfold execOp;simp[u]
theorem NJ{P:Program}{a:Act}{o:Oper}{c:Call}{fv:Operand}{f:Fn}{first caps:XQ}{w:World}(z:o.op=.defer c)(hc:c.callee=.value fv)(y:a.eval fv=.func f first caps)(u:c.args.map a.eval=#[]):
  (execOp a.eval o).run P w=.ok (.defer {target:=.fn f caps,args:=first++#[]}) w:=by
 unfold execOp;simp[z,resolve,hc,y,u,yQ]
theorem Gd{N:Nat}{a:Act}{l:List (Nat×Value)}(h:Has N a l){t:Nat}{v:Value}(y:t<N):Has N (a.put (some t) v) ((t,v)::l):=by
 refine⟨by simp[Act.put,h.1],λs u z=>?_⟩;rw[yH]at z;by_cases e:s=t
 .subst e;simp only[beq_self_eq_true]at z;cases z;simp[Act.put,wx,h.1,y]
 .have r:(s==t)=false:=by simpa using e
  rw[r]at z;have:=h.2 s u z;rw[<-this];simp[Act.put,wx,wv (wu e)]
theorem cell1{b:Nat}{x:Int}{t:Nat}{w:World}(h:w.heap[b]?=some (cell (uI x) t)){T:TypeId}(u:DA xV T (.cons (.var (.i .i64) 0) .nil) 0=some (.var (.i .i64) 0)):(loadVar T ⟨b,0,none⟩).run xV w=.ok (uI x) w:=
 HP (P:=xV) (t:=T) (cs:=.cons (.var (.i .i64) 0) .nil) (x:=.var (.i .i64) 0) (ρ:=[uI x]) (β:=id) (o:=0) h u
theorem NK{tmps:XQ}{b4 b5:Nat}{x4 x5:Int}{u z:Nat}{w:World}(y:tmps.getD 4 undef=pv b4)(l:tmps.getD 5 undef=pv b5)(c4:w.heap[b4]?=some (cell (uI x4) u))(c5:w.heap[b5]?=some (cell (uI x5) z)):
  (results vx tmps).run xV w=.ok (.tuple #[uI x4,uI x5]) w:=by
 have r:vx.results=#[.cell 4 3,.cell 5 42]:=by kernel_rfl
 unfold results;rw[r];have q:asAddr (tmps.getD 4 undef)=pure ⟨b4,0,none⟩:=by rw[y];rfl
 have H:asAddr (tmps.getD 5 undef)=pure ⟨b5,0,none⟩:=by rw[l];rfl
 simp only[wk,wj,List.mapM_nil,zV,Sem.run_map,zX,zW,q,H,cell1 c4 (T:=3) (by kernel_rfl),cell1 c5 (T:=42) (by kernel_rfl)];rfl
theorem NL{tmps:XQ}{w:World}:(results vy tmps).run xV w=.ok (.tuple #[]) w:=by
 have u:vy.results=#[]:=by kernel_rfl
 unfold results;rw[u];simp
theorem tryNil{a b c:XI}:AS xV 23 c257a [(0,.pointer a),(1,.pointer b),(2,.pointer c),(3,.nilIface)] [] V λ_ V'=>V'=V:=by
 refine s257a (d:=.nilIface) ?_;unfold w257a;exact GenK.eqNilNil rfl rfl ⟨false,rfl,(λk=>by cases k),λ_=>⟨_,rfl,rfl⟩⟩
theorem lateC(S:Dp V0 d m p kb bb){b2 b4 b5:Nat}{x4 x5:Int}{bz:Int×Int->Bool}{V1:Mem}(T:TryM V0 d m p kb bb b2 b4 b5 V1 kn bz x4 x5)(n4:b4≠b5/\b4≠b2/\b5≠b2/\b4≠p/\b5≠p/\b4≠kb/\b5≠kb/\b4≠bb/\b5≠bb/\V0 b4=none/\V0 b5=none/\b2≠bb){w:World}(hw:V1.le w){u:FrameMode}{n:Nat}(hu:u=.returning∨∃c,u=.panicking [{v:=fltV c,recovered:=false}]):
  CallsDIn (AB none) n xV 257 #[pv b4,pv b5,pv b2] u w λe y w'=>(∃v,e=.returned v)/\∃V2,Ax V1 w V2 w'/\
   ((u=.returning/\y=.returning/\V2=V1)∨∃c,u=.panicking [{v:=fltV c,recovered:=false}]/\y=.panicking [{v:=fltV c,recovered:=true}]/\TryM V0 d m p kb bb b2 b4 b5 V2 kn (λ_=>false) 0 c/\∀c o,c≠b4->c≠b5->c≠bb->V1 c=some o->V2 c=some o):=by
 refine Qx (fn:=vy) (at0:=#[]) (t3:=3) (t6:=6) Tryz.func257 tryBody tryX_eq (by kernel_rfl) (by kernel_rfl) (by kernel_rfl) (by kernel_rfl) (by kernel_rfl) (by kernel_rfl) (by rw[show vy.ntmps=23 by kernel_rfl];decide) (by rw[show vy.ntmps=23 by kernel_rfl];simp) ?_;intro v y z;refine FE ?_;rw[tryY_flat];have J:=Gd (Gd (H6 (args:=[pv b4,pv b5,pv b2]) (N:=23) (by simp)) (t:=6) (v:=v) (by decide)) (t:=3) (v:=v) (by decide);have r:Has 23 _ [(0,pv b4),(1,pv b5),(2,pv b2),(3,v)]:=⟨J.1,λs x q=>by
  simp only[yH]at q
  repeat' split at q
  all_goals first
   |(rename_i e;simp only[beq_iff_eq]at e;subst e;cases q;exact J.get rfl)
   |cases q⟩
 rcases hu with rfl|⟨c,rfl⟩
 .obtain⟨rfl,rfl⟩:v=.nilIface/\y=.returning:=z;refine Fg ?_ (tryNil (V:=V1) none n _ w hw r.1 r.2);rintro e Y w' ⟨rfl,l,-,vs,V',-,rfl,H⟩;exact⟨.inl rfl,l,_,NL,⟨_,rfl⟩,V',H,.inl ⟨rfl,rfl,rfl⟩⟩
 .obtain⟨rfl,rfl⟩:v=fltV c/\y=.panicking [{v:=fltV c,recovered:=true}]:=by
   obtain⟨l,W⟩:=z;exact⟨l,W⟩
  refine Fg ?_ (tryLate S T n4 (e:=c) none n _ w hw r.1 r.2);rintro e Y w' ⟨rfl,l,-,vs,V',-,Z,H⟩;exact⟨.inl rfl,l,_,NL,⟨_,rfl⟩,V',H,.inr ⟨c,rfl,rfl,Z.1,Z.2⟩⟩
theorem Out.imp{B B':Int->Int->Prop}{r:Rs}(h:Out d m B g r)(k:∀a b,B a b->B' a b):Out d m B' g r:=by
 cases r with
 |ok v=>exact h
 |bad e=>
  rcases h with h|⟨u,h|⟨a,b,z,y⟩⟩;.exact .inl h
  .exact .inr ⟨u,.inl h⟩
  .exact .inr ⟨u,.inr ⟨a,b,k a b z,y⟩⟩
theorem Kh{F:Fence}{n:Nat}{P:Program}{f:FuncId}{args:XQ}{u:FrameMode}{w:World}{R y:Ending->FrameMode->World->Prop}(h:CallsDIn F n P f args u w R)(k:∀e z w',R e z w'->y e z w'):CallsDIn F n P f args u w y:=
 ⟨h.1,λc cs l r=>let⟨e,z,w',fr,a,b⟩:=h.2 c cs l r;⟨e,z,w',fr,k _ _ _ a,b⟩⟩
structure TryR (V0:Mem)(d:Ds)(m:Mm)(p kb bb:Nat)(V:Mem)(g:Nat->Rs)(rs:Rs)(V':Mem):Prop where
 out:Out d m (λ_ _=>False) g rs
 keep:CU kb bb V V'
 mach:∃kn',BI V0 d m p kb bb V' kn' (λ_=>false)/\KnOk d m kn'
def TryP(V0:Mem)(d:Ds)(m:Mm)(p kb bb:Nat)(V:Mem)(g:Nat->Rs):RP:=λe V'=>∃rs,e=rT #[uI (valRs rs),uI (errRs rs)]/\TryR V0 d m p kb bb V g rs V'
theorem tryC(S:Dp V0 d m p kb bb)(M:BI V0 d m p kb bb V kn (λ_=>false)){f:Nat}{caps:XV}(hf:Gy f)(H:∀V1,V.sub V1->Tri xV f caps.toArray V1 (BM V0 d m p kb bb V1 kn (λ_=>false) g)):
  Tri xV 194 #[pv p,.func (.func f) #[] caps.toArray] V (TryP V0 d m p kb bb V g):=by
 unfold Go.Sx.Tri;intro w hV;refine(callsIn_wide (n:=0)).1 (callsIn_of_wp_defers (F:=AB none) Tryz.func194 (c:=AF vx) (by kernel_rfl) trivial (FE ?_) rfl);rw[try_flat];have hA:AS xV 9 c194a [(0,pv p),(1,.func (.func f) #[] caps.toArray)] [1,2,4,5] V λvs V1=>∃b2 b4 b5,vs=[.func (.func f) #[] caps.toArray,pv b2,pv b4,pv b5]/\
   V b2=none/\(V.set b2 (cell (pv p) 227)) b4=none/\((V.set b2 (cell (pv p) 227)).set b4 (cell (uI 0) 3)) b5=none/\
   V1=(((V.set b2 (cell (pv p) 227)).set b4 (cell (uI 0) 3)).set b5 (cell (uI 0) 42)):=by
  refine s194a (a:=some ⟨p,0,none⟩) (b:=.func (.func f) #[] caps.toArray) ?_;unfold w194a;intro b2 h2 b4 O b5 r;exact⟨_,rfl,b2,b4,b5,rfl,h2,O,r,rfl⟩
 refine hA.step hV (H6 (args:=[pv p,.func (.func f) #[] caps.toArray]) (N:=9) (by simp)) ?_;rintro a1 w1 vs V1 hd1 q ⟨b2,b4,b5,rfl,h2,O,r,J⟩ R;have z:b4≠b2:=λe=>by rw[e,Mem.set_same]at O;cases O
 have y:b5≠b4:=λe=>by rw[e,Mem.set_same]at r;cases r
 have Z:b5≠b2:=λe=>by rw[e,Mem.set_ne z.symm,Mem.set_same]at r;cases r
 rw[Mem.set_ne z]at O;rw[Mem.set_ne y,Mem.set_ne Z]at r;have s1:V.sub V1:=by
  rw[J];refine((Mem.sub.refl V).set h2 _).set O _|>.set r _
 have M1:=M.grow s1;have X:∀{b:Nat},V b=none->b≠p/\b≠kb/\b≠bb/\V0 b=none:=λ{b} A=>by
  obtain⟨e1,c1,k1,-⟩:=M.known.at_;obtain⟨e2,c2,U,-⟩:=M.busy.at_;refine⟨λe=>?_,λe=>?_,λe=>?_,?_⟩;.subst e;rw[M.at_]at A;cases A
  .subst e;rw[k1]at A;cases A
  .subst e;rw[U]at A;cases A
  .cases h0:V0 b with
   |none=>rfl
   |some o=>rw[M.sub _ _ h0]at A;cases A
 obtain⟨-,a3',a4,-⟩:=X h2;obtain⟨q2,q3,q4,q5⟩:=X O;obtain⟨r2,r3,r4,r5⟩:=X r;have n4:b4≠b5/\b4≠b2/\b5≠b2/\b4≠p/\b5≠p/\b4≠kb/\b5≠kb/\b4≠bb/\b5≠bb/\V0 b4=none/\V0 b5=none/\b2≠bb:=⟨y.symm,z,Z,q2,r2,q3,r3,q4,r4,q5,r5,a4⟩;have e2:V1 b2=some (cell (pv p) 227):=by rw[J,Mem.set_ne Z.symm,Mem.set_ne z.symm,Mem.set_same]
 have e4:V1 b4=some (cell (uI 0) 3):=by rw[J,Mem.set_ne y.symm,Mem.set_same]
 have e5:V1 b5=some (cell (uI 0) 42):=by rw[J,Mem.set_same]
 show wO (AB none) 0 xV Gc _ a1 w1;rw[tryR1_eq];refine wpIn_region ?_;show wpOpsIn _ _ _ _ _ [0,1] _ _;refine Go.Sx.step_value (o:=(Cq Gc).getD 0 CG) rfl (by kernel_rfl) (NH (f:=.func 257) (first:=#[]) (caps:=#[.tmp 4,.tmp 5,.tmp 2]) (by kernel_rfl)) ?_;have g2:a1.eval (.tmp 2)=pv b2:=q.get rfl;have g4:a1.eval (.tmp 4)=pv b4:=q.get rfl;have g5:a1.eval (.tmp 5)=pv b5:=q.get rfl;have hd0:((Cq Gc).getD 0 CG).dst=some 6:=by kernel_rfl
 have hd1':((Cq Gc).getD 1 CG).dst=none:=by kernel_rfl
 rw[hd0,show(#[Operand.tmp 4,.tmp 5,.tmp 2].map a1.eval)=#[pv b4,pv b5,pv b2]by simp[g2,g4,g5],show((#[]:Array Operand).map a1.eval)=#[]by simp];have B:=Gd q (t:=6) (v:=.func (.func 257) #[] #[pv b4,pv b5,pv b2]) (by decide);refine Go.Sx.step_defer (o:=(Cq Gc).getD 1 CG) rfl (by kernel_rfl) (NJ (c:={callee:=.value (.tmp 6),args:=#[],argTypes:=#[]}) (fv:=.tmp 6) (f:=.func 257) (first:=#[]) (by kernel_rfl) rfl (B.get rfl) (by simp)) ?_;rw[hd1'];show wO (AB none) 0 xV tryR2 _ _ w1;rw[tryR2_eq];refine wpIn_region ?_;rw[tryR2_size];show wpOpsIn _ _ _ _ _ [0,1,2,3] _ _;have i0:(Fh)[0]?=some ((Fh).getD 0 CG):=by kernel_rfl
 have i1:(Fh)[1]?=some ((Fh).getD 1 CG):=by kernel_rfl
 have d0:((Fh).getD 0 CG).dst=some 7:=by kernel_rfl
 have d1:((Fh).getD 1 CG).dst=some 8:=by kernel_rfl
 refine Go.Sx.step_value i0 (by kernel_rfl) (run_move (x:=.tmp 1) (by kernel_rfl)) ?_;rw[d0];suffices key:∀a3:Act,a3.defers=[{target:=.fn (.func 257) #[pv b4,pv b5,pv b2],args:=#[]++#[]}]->
   Has 9 a3 [(6,.func (.func 257) #[] #[pv b4,pv b5,pv b2]),(1,.func (.func f) #[] caps.toArray),(2,pv b2),(4,pv b4),(5,pv b5)]->
   wpOpsIn (AB none) 0 xV Fh (Exit.then (Cy none 0 xV (bodyPostDIn (AB none) 0 xV vx λe w'=>∃V',TryP V0 d m p kb bb V g e V'/\Ax V w V' w') [Code.ret]) (bodyPostDIn (AB none) 0 xV vx λe w'=>∃V',TryP V0 d m p kb bb V g e V'/\Ax V w V' w')) [1,2,3] (a3.put (some 7) (a3.eval (.tmp 1))) w1 by
  refine key _ ?_ ⟨B.1,B.2⟩;show _::a1.defers=_;rw[hd1]
 intro a3 hd3 hH3;have hg:a3.eval (.tmp 1)=.func (.func f) #[] caps.toArray:=hH3.get rfl;rw[hg];have Y:=Gd hH3 (t:=7) (v:=.func (.func f) #[] caps.toArray) (by decide);have inv:∀w',(invoke (.fn (.func 257) #[pv b4,pv b5,pv b2]) (#[]++#[])).run xV w'=.ok (.enter 257 #[pv b4,pv b5,pv b2]) w':=λw'=>by simp[invoke]
 have l:∀{V':Mem}{kn':Int×Int->Option Int}{bz':Int×Int->Bool},BI V0 d m p kb bb V' kn' bz'->CU kb bb V1 V'->TryM V0 d m p kb bb b2 b4 b5 V' kn' bz' 0 0:=λh k=>⟨h,⟨_,k _ _ a3' a4 e2⟩,⟨_,k _ _ q3 q4 e4⟩,⟨_,k _ _ r3 r4 e5⟩⟩;have I:∀{rs:Rs},Out d m (GL λ_=>false) g rs->Out d m (λ_ _=>False) g rs:=λh=>h.imp λa b h=>by cases h
 have hK:∀{V' V2:Mem},CU kb bb V1 V'->(∀c o,c≠b4->c≠b5->c≠bb->V' c=some o->V2 c=some o)->CU kb bb V V2:=λk1 U c o c1 c2 c3=>U c o (λe=>by rw[e,O]at c3;cases c3) (λe=>by rw[e,r]at c3;cases c3) c2 (k1 c o c1 c2 (s1 _ _ c3));refine Go.Sx.step_call i1 (by kernel_rfl) (by simpa using run_callv (c:={callee:=.value (.tmp 7),args:=#[],argTypes:=#[]}) (fv:=.tmp 7) (f:=f) (first:=#[]) (caps:=caps.toArray) (args:=#[]) (by kernel_rfl) rfl (Y.get rfl) (by simp) hf) R.le (H V1 s1) ?_ ?_ ?_
 .rintro ch V' w' ⟨rs,u,W⟩ hF;cases rs with
  |ok v=>cases u
  |bad c=>
   cases u;show LeavesIn (AB none) 0 xV _ _ _ a3.defers _ w';rw[hd3];obtain⟨kn',bz',C,m2,-⟩:=W.mach;refine⟨nofun,(λh=>by simp[AB,wJ]at h),_,_,_,_,rfl,inv w',λ_ _=>trivial,Kh (lateC S (l C W.keep) n4 hF.le (.inr ⟨c,rfl⟩)) ?_⟩;rintro e u' w'' ⟨⟨v,rfl⟩,V2,D,⟨h,-⟩|⟨c',hc,rfl,L,hk2⟩⟩;.cases h
   .have hcc:c'=c:=by
     simp only[vw,List.cons.injEq,PanicEntry.mk.injEq,fltV]at hc;simpa using hc.1.1.symm
    subst hcc;obtain⟨t4,k4⟩:=L.c4;obtain⟨t5,k5⟩:=L.c5;refine⟨_,NK (Y.get rfl) (Y.get rfl) (D.le _ _ k4) (D.le _ _ k5),V2,⟨.bad c',rfl,I W.out,hK W.keep hk2,kn',L.mach,m2⟩,(R.trans hF).trans D⟩
 .rintro v V' w' ⟨rs,u,W⟩ hF;cases rs with
  |bad c=>cases u
  |ok x=>
   cases u;rw[d1];obtain⟨kn',bz',C,m2,m3⟩:=W.mach;obtain⟨rfl,-⟩:=m3 x rfl;have T1:=l C W.keep;obtain⟨t4,k4⟩:=T1.c4;obtain⟨t5,k5⟩:=T1.c5;have hH5:=Gd Y (t:=8) (v:=uI x) (by decide);have hB:CS xV 9 Fh 2 2 [(4,pv b4),(5,pv b5),(8,uI x)] [4,5] V' λvs V2=>vs=[pv b4,pv b5]/\V2=(V'.set b4 (cell (uI x) t4)).set b5 (cell (uI 0) t5):=by
    refine s194b (a:=some ⟨b4,0,none⟩) (b:=some ⟨b5,0,none⟩) (c:=x) ?_;unfold w194b;exact Am.cell k4 (Am.cell (by rw[Mem.set_ne y];exact k5) ⟨_,rfl,rfl,rfl⟩)
   show wpOpsIn _ _ _ _ _ (List.range' 2 2++[]) _ w';refine hB.step hF.le (⟨hH5.1,λs v hs=>by
    simp only[yH]at hs
    repeat' split at hs
    all_goals first
     |(rename_i e;simp only[beq_iff_eq]at e;subst e;cases hs;exact hH5.get rfl)
     |cases hs⟩:Has 9 _ [(4,pv b4),(5,pv b5),(8,uI x)]) ?_
   rintro a6 w6 vs V2 hd6 hH6 ⟨rfl,hV2⟩ hF6;show wO (AB none) 0 xV .ret _ a6 w6;refine wpIn_ret ?_;show LeavesIn (AB none) 0 xV _ _ _ a6.defers _ w6;rw[hd6];show LeavesIn (AB none) 0 xV _ _ _ a3.defers _ w6;rw[hd3];have L:TryM V0 d m p kb bb b2 b4 b5 V2 kn' (λ_=>false) x 0:=by
    rw[hV2];refine⟨⟨(C.sub.set q5 _).set r5 _,by rw[Mem.set_ne r2.symm,Mem.set_ne q2.symm];exact C.at_,(C.known.set q3.symm).set r3.symm,(C.busy.set q4.symm).set r4.symm⟩,?_,⟨t4,by rw[Mem.set_ne y.symm,Mem.set_same]⟩,⟨t5,Mem.set_same _ _ _⟩⟩;obtain⟨t2,U⟩:=T1.c2;exact⟨t2,by rw[Mem.set_ne Z.symm,Mem.set_ne z.symm];exact U⟩
   refine⟨nofun,(λh=>by simp[AB,wJ]at h),_,_,_,_,rfl,inv w6,λ_ _=>trivial,Kh (lateC S L n4 hF6.le (.inl rfl)) ?_⟩;rintro e u' w'' ⟨⟨v,rfl⟩,V3,K,⟨-,rfl,rfl⟩|⟨c',hc,-⟩⟩
   .obtain⟨u4,k4'⟩:=L.c4;obtain⟨u5,k5'⟩:=L.c5;refine⟨_,NK (hH6.get rfl) (hH6.get rfl) (K.le _ _ k4') (K.le _ _ k5'),V3,⟨.ok x,rfl,I W.out,hK W.keep (λc o c1 c2 _ c3=>?_),kn',L.mach,m2⟩,((R.trans hF).trans hF6).trans K⟩;rw[hV2,Mem.set_ne c2,Mem.set_ne c1];exact c3
   .cases hc
 .rintro V' ⟨rs,u,-⟩;cases rs<;>cases u
end
end Go.Proofs
namespace Go.Proofs
open Go Go.Sx
structure Sr where
 order:XZ
 again:Int
def DM(x:Fld×Int):Bool:=!C4 x.1.ty&&decide (x.2≠0)
def tgtI(l:XX)(vs:XZ)(i:Nat):XZ:=(((l.zip vs).take i).filter DM).map (·.2)
def DN(l:XX)(vs:XZ):XZ:=((l.zip vs).filter DM).map (·.2)
def Fi(d:Ds)(m:Mm)(n:Int):XZ:=match m.nodes[(n-1).toNat]? with|some x=>DN (B3 d x.ty) x.f|none=>[]
def Bl(d:Ds)(m:Mm):Nat->Sr->Int->Sr
 |0,st,_=>st
 |f+1,st,n=>if n∈st.order then⟨st.order,if st.again=0 then n else st.again⟩else(Fi d m n).foldl (Bl d m f) ⟨st.order++[n],st.again⟩
def lookP(d:Ds)(m:Mm)(f:Nat)(st:Sr)(l:XX)(vs:XZ):Sr:=(DN l vs).foldl (Bl d m f) st
def BN(d:Ds)(m:Mm):Sr:=lookP d m (m.nodes.length+1) ⟨[],0⟩ d.globals m.globals
theorem tgtI_zero(l:XX)(vs:XZ):tgtI l vs 0=[]:=rfl
theorem Ki{l:XX}{vs:XZ}{i:Nat}{f:Fld}{v:Int}(u:l[i]?=some f)(hv:vs[i]?=some v):tgtI l vs (i+1)=tgtI l vs i++if DM (f,v)=true then[v]else[]:=by
 have z:(l.zip vs)[i]?=some (f,v):=by rw[List.getElem?_zip_eq_some];exact⟨u,hv⟩
 unfold tgtI;rw[List.take_add_one,z,List.filter_append,List.map_append];by_cases h:DM (f,v)=true;.simp[h]
 .simp[h]
theorem tgtI_all{l:XX}{vs:XZ}{i:Nat}(h:l.length<=i):tgtI l vs i=DN l vs:=by
 unfold tgtI DN;rw[wm];rw[List.length_zip];omega
def B7(m:Mm)(st:Sr):Nat:=((zC m.nodes.length).filter λ(i:Nat)=>!decide (((i:Int)+1)∈st.order)).length
theorem entP_sub(d:Ds)(m:Mm):∀(f:Nat)(st:Sr)(n:Int),∀x∈st.order,x∈(Bl d m f st n).order
 |0,st,n,x,h=>h
 |f+1,st,n,x,h=>by
  unfold Bl;split;.exact h
  .have:∀(l:XZ)(s:Sr),x∈s.order->x∈(l.foldl (Bl d m f) s).order:=λl=>by
    induction l with
    |nil=>exact λs h=>h
    |cons a l u=>exact λs h=>u _ (entP_sub d m f s a x h)
   exact this _ _ (vu _ h)
theorem foldP_sub(d:Ds)(m:Mm)(f:Nat)(x:Int):∀(l:XZ)(s:Sr),x∈s.order->x∈(l.foldl (Bl d m f) s).order:=λl=>by
 induction l with
 |nil=>exact λs h=>h
 |cons a l u=>exact λs h=>u _ (entP_sub d m f s a x h)
open Classical in
noncomputable def D3(d:Ds)(m:Mm)(e:E)(x:Int):Bool:=decide (∃n,Au d m (Al d m n) x e=.ok 1)
noncomputable def B8(d:Ds)(m:Mm)(v:Iv)(x:Int):Bool:=decide (Dg d m x=v.ty)&&!D3 d m v.x x
noncomputable def BQ(d:Ds)(m:Mm)(v:Iv)(l:XZ):List (KB×Int):=(l.filter (B8 d m v)).map λx=>(v.name,x)
def A9(d:Ds)(m:Mm)(v:Iv):XZ:=if v.ty=sE then[0]else(BN d m).order
noncomputable def allP(d:Ds)(m:Mm):List (KB×Int):=d.invs.flatMap λv=>BQ d m v (A9 d m v)
theorem Kj{d:Ds}{m:Mm}{e:E}{x:Int}{rs:Rs}(h:Out d m (λ_ _=>False) (λn=>Au d m (Al d m n) x e) rs):D3 d m e x=decide (rs=.ok 1):=by
 unfold D3;rw[decide_eq_decide];constructor
 .rintro⟨n,u⟩;exact Out.unique (Ca x e) h (show Out d m (λ_ _=>False) _ (Rs.ok 1)from⟨n,u⟩)
 .rintro rfl;exact h
end Go.Proofs
namespace Go.Proofs
open Go Go.Sx
attribute [local irreducible] Go.Sx.Tri
theorem chk_zero{d:Ds}(h:(fltR (B0 d)).2.2=0):B0 d=none:=by
 have key:∀{a:XT},(∀r,a=some r->r.2.2≠0)->(fltR a).2.2=0->a=none:=λ{a} H h=>by
  cases a with
  |none=>rfl
  |some r=>exact absurd h (H r rfl)
 refine key (λr u=>?_) h;unfold B0 at u;have z:∀{a b:XT} {r},a.or b=some r->a=some r∨b=some r:=λ{a b r} h=>by
  cases a with
  |none=>exact .inr (by simpa using h)
  |some x=>exact .inl (by simpa using h)
 rcases z u with y|u;.exact(JR d r y).1
 rcases z u with y|u;.exact(JS d r y).1
 rcases z u with y|u;.exact(JT d r y).1
 rcases z u with y|u
 .unfold Et at y;obtain⟨j,x,-,l⟩:=Hh y;split at l;.rename_i q;cases l;exact q
  .cases l
 .exact(JU d r u).1
theorem ivB_parts{x:Iv}(h:E5 x=true):Bg x.name=true/\openB x.ty=true/\VE x.x:=by
 unfold E5 at h;simp only[zD]at h;exact⟨h.1.1,h.1.2,VE.of_valid h.2⟩
section
variable{V:Mem}{d:Ds}{m:Mm}
def LQ:Int×Int->Option Int:=λ_=>none
def I0:Int×Int->Bool:=λ_=>false
theorem c143[Tab V](l:Ds.Ok V d)(hm:Mm.Ok V m):Tri xV 143 #[d.v,m.v] V λe V'=>
  (∃p kb bb,e=rT #[pv p,uI 0]/\Dp V d m p kb bb/\BI V d m p kb bb V' LQ I0)∨(¬An d m/\e=rT #[.pointer none,uI 1]/\V.sub V'):=by
 refine x143 ?_;refine(Lu scopeC newC l).call ?_;have bad:∀{V1:Mem},V.sub V1->¬An d m->(∃p kb bb,xY (.tuple #[.pointer none,uI 1])=rT #[pv p,uI 0]/\Dp V d m p kb bb/\BI V d m p kb bb V1 LQ I0)∨(¬An d m/\xY (.tuple #[.pointer none,uI 1])=rT #[.pointer none,uI 1]/\V.sub V1):=λA h=>.inr ⟨h,rfl,A⟩;by_cases hv:A8 d=true
 .rw[if_pos hv];refine⟨_,_,_,rfl,λr=>(c102 l hm).call ⟨_,rfl,λq=>?_,λq=>bad (Mem.sub.refl _) λk=>q k.mem⟩,λr=>bad (Mem.sub.refl _) λk=>r (by rw[k.chk];rfl)⟩;have G:An d m:=⟨hv,chk_zero r,q⟩;refine GenK.makeMap λkb y=>⟨some kb,rfl,GenK.makeMap λbb u=>⟨some bb,rfl,λp z=>?_⟩⟩;have H:bb≠kb:=λe=>by rw[e,Mem.set_same]at u;cases u
  have Y:p≠bb:=λe=>by rw[e,Mem.set_same]at z;cases z
  have W:p≠kb:=λe=>by rw[e,Mem.set_ne H.symm,Mem.set_same]at z;cases z
  have I:=Mem.sub_new y (.map #[] 0);have O:=Mem.sub_new u (.map #[] 0);have J:=Mem.sub_new z (.cells (mrow d m kb bb).toArray 271 (0,0));have N:V bb=none:=by rw[Mem.set_ne H]at u;exact u
  have Z:V p=none:=by rw[Mem.set_ne Y,Mem.set_ne W]at z;exact z
  refine .inl ⟨p,kb,bb,rfl,⟨G,l,hm,Z,y,N,W,Y,H.symm⟩,(I.trans O).trans J,Mem.set_same _ _ _,?_,?_⟩;.exact(((B2.made V kb).sub O).sub J).congr λ_=>rfl
  .exact((B2.made _ bb).sub J).congr λ_=>rfl
 .rw[if_neg hv];refine⟨_,_,_,rfl,λh=>absurd h (by decide),λ_=>bad (Mem.sub.refl _) λk=>hv k.valid⟩
section
variable{V0:Mem}{p kb bb:Nat}{kn:Int×Int->Option Int}{bz:Int×Int->Bool}
theorem postOf{f:FuncId}{args:XQ}{g:Nat->Rs}(h:Tri xV f args V (BM V0 d m p kb bb V kn bz g)):Tri xV f args V λe V1=>(∃v,e=Id v/\BM V0 d m p kb bb V kn bz g (Id v) V1)∨∃z,e=.panicked z/\BM V0 d m p kb bb V kn bz g e V1:=
 Tri.mono h λe V' ⟨rs,y,u⟩=>by
  subst y;cases rs with
  |ok a=>exact .inl ⟨a,rfl,.ok a,rfl,u⟩
  |bad e=>exact .inr ⟨_,rfl,.bad e,rfl,u⟩
theorem c195(S:Dp V0 d m p kb bb)(M:BI V0 d m p kb bb V kn bz)(K:KnOk d m kn){b1 b2 b3 u t2 t3:Nat}{v:Iv}{T t:KB}{x:Int}(z:V b1=some (cell (pv p) u))(y:V b2=some (.cells v.row.toArray t2 (0,0)))(l:V b3=some (cell (uI x) t3))
  (hv:VE v.x) (r:E.Ok V0 v.x) (q:Ao d (AM d T) v.x=(t,0)) (H:This d m T x):
  Tri xV 195 #[pv b1,pv b2,pv b3] V (BM V0 d m p kb bb V kn bz λn=>Au d m (Al d m n) x v.x):=by
 refine x195 (R:=BM V0 d m p kb bb V kn bz λn=>Au d m (Al d m n) x v.x) ?_;exact⟨_,AD z,nn,_,_,_,_,Aj y 2 4 (by simp[Iv.row]),_,AD l,postOf (exprAll S (GM d m kn bz) v.x T t x V kn bz hv r q H M K (yu _))⟩
theorem c146(S:Dp V0 d m p kb bb)(M:BI V0 d m p kb bb V kn I0)(K:KnOk d m kn){v:Iv}{x:Int}(hv:v∈d.invs)(O:This d m v.ty x):
  Tri xV 146 #[pv p,v.v,uI x] V λe V'=>e=EQ (D3 d m v.x x)/\CU kb bb V V'/\∃kn',BI V0 d m p kb bb V' kn' I0/\KnOk d m kn':=by
 refine x146 ?_;intro b1 z b2 y b3 l;have A:=Mem.sub_new z (cell (pv p) 227);have H:=Mem.sub_new y (.cells v.row.toArray 105 (0,0));have r:=Mem.sub_new l (cell (uI x) 3);have s:=A.trans (H.trans r);have q:=(ivB_parts ((GI S.good.valid).2.2.2 v hv)).2.2;obtain⟨-,c2⟩:=(IV S.good.chk).2 v hv;refine Tri.mono (tryC S (M.grow s) (g:=λn=>Au d m (Al d m n) x v.x) (caps:=[pv b1,pv b2,pv b3]) Tryz.call195 λV1 u=>
  c195 S ((M.grow s).grow u) K (u _ _ ((H.trans r) _ _ Av)) (u _ _ (r _ _ Av)) (u _ _ Av) q (S.ds.invsOk v hv) c2 O) ?_
 rintro _ V' ⟨rs,rfl,I,J,kn',N,Z⟩;have Y:=Kj I;refine⟨_,_,rfl,λW=>⟨?_,(CU.of_sub s).trans J,kn',N,Z⟩,λW=>⟨?_,(CU.of_sub s).trans J,kn',N,Z⟩⟩
 .rw[Y];cases rs with
  |ok a=>rw[show decide (Rs.ok a=Rs.ok 1)=decide (a=1)by rw[decide_eq_decide];simp];rfl
  |bad c=>rfl
 .rw[Y];cases rs with
  |ok a=>exact absurd rfl W
  |bad c=>rfl
end
end
end Go.Proofs
namespace Go.Sx
open Go
open Classical
section
variable{P:Program}{V0 V1 V:Mem}{e:TypeId}{sz:Nat}{s:Sl}{vs:XV}
def A4(s:Sl)(c:Nat):Prop:=s.c≠0/\s.p=some ⟨c,0,none⟩
noncomputable def Mem.but(V:Mem)(s:Sl):Mem:=λc=>if A4 s c then none else V c
theorem Mem.but_sub(V:Mem)(s:Sl):(V.but s).sub V:=λc o h=>by
 grind[Mem.but]
theorem Mem.but_at{c:Nat}{o:Obj}(h:V c=some o)(u:¬A4 s c):V.but s c=some o:=by
 grind[Mem.but]
theorem Own.cases0(h:Own V0 V e sz s vs):(s.n=0/\s.c=0/\vs=[])∨(s.c≠0/\∃g u,s.p=some ⟨g,0,none⟩/\V0 g=none/\V g=some (.cells u e (0,0))/\s.n<=s.c/\s.c<=maxLen/\u.size=s.c*sz/\u.toList.take (s.n*sz)=vs):=by
 rcases h.at_ with z|⟨g,u,z,y,l,r,q⟩;.exact .inl z
 .by_cases H:s.c=0;.simp_all
  simp_all
theorem Own.but(h:Own V0 V e sz s vs):Own (V.but s) V e sz s vs:=by
 refine⟨Mem.but_sub V s,h.len,?_⟩;rcases h.cases0 with u|⟨z,g,cur,u,l,y⟩;.exact .inl u
 .refine .inr ⟨g,cur,u,?_,y⟩;unfold Mem.but;rw[if_pos ⟨z,u⟩]
theorem Own.apart(h:Own V0 V e sz s vs){c:Nat}(hc:∀u,V c≠some (.cells u e (0,0))):¬A4 s c:=by
 rintro⟨y,l⟩;rcases h.cases0 with⟨-,z,-⟩|⟨-,g,u,z,r,q,-⟩;.exact y z
 simp_all
theorem Own.apart0(h:Own V0 V e sz s vs){c:Nat}{o:Obj}(hc:V0 c=some o):¬A4 s c:=by
 rintro⟨z,y⟩;rcases h.cases0 with⟨-,u,-⟩|⟨-,g,cur,u,l,-⟩;.exact z u
 simp_all
theorem Own.apartN(h:Own V0 V e sz s vs){c:Nat}(hc:V c=none):¬A4 s c:=h.apart λu=>by rw[hc];nofun
theorem Own.sub_but(h:Own V0 V e sz s vs):V0.sub (V.but s):=λ_ _ u=>Mem.but_at (h.sub _ _ u) (h.apart0 u)
theorem Own.narrow(h:Own V1 V e sz s vs)(z:V0.sub V1):Own V0 V e sz s vs:=⟨z.trans h.sub,h.len,by
 rcases h.at_ with u|⟨g,cur,u,y,l⟩;.exact .inl u
 .refine .inr ⟨g,cur,u,?_,l⟩;cases r:V0 g with
  |none=>rfl
  |some o=>rw[z _ _ r]at y;cases y⟩
theorem Own.put(h:Own V0 V e sz s vs){c:Nat}(z:¬A4 s c)(y:V0 c=none)(o:Obj):Own V0 (V.set c o) e sz s vs:=⟨h.sub.set y o,h.len,by
 rcases h.cases0 with u|⟨l,g,cur,u,r,q,H⟩;.exact .inl u
 .refine .inr ⟨g,cur,u,r,?_,H⟩;rw[Mem.set_ne λe=>z ⟨l,by simp_all⟩];exact q⟩
theorem NM(k:Int):∀(es:List MapEntry)(i:Nat),(∀e∈es,∃n,e.key=.int .i64 n)->
  y4 (.int .i64) (.int .i64 k) es i=some ((es.findIdx? λe=>decide (e.key=.int .i64 k)).bind λj=>(es[j]?).map λe=>(i+j,e.val))
 |[],_,_=>rfl
 |e::es,i,h=>by
  obtain⟨s,y⟩:=h e (by simp);have l:=NM k es (i+1) λx r=>h x (by simp[r]);unfold y4;simp only[y,vM,y5];by_cases z:k=s;.grind
  .have u:¬s=k:=λe=>z e.symm;simp only[l];have q:(k==s)=false:=by simpa using z
   cases H:List.findIdx? (λe=>decide (e.key=vP .i64 k)) es with
   |none=>simp[u,q]
   |some j=>grind
theorem keyInt{kt:TypeId}(u:P.underlying kt=some (.int .i64)):KeyOf P kt (vP .i64) where
 inj:=λa b h=>by cases h;rfl
 find:=λa es w h=>by
  simp_all[y8,zV,run_underlying,zW,NM,Nat.zero_add]
 check:=λb a w=>by
  unfold y9;simp_all[zV,run_underlying,zW]
 stays:=λa w=>by
  have h:vN 10000 (.int .i64 a) (.int .i64 a)=true:=by
   rw[show(10000:Nat)=9999+1 from rfl];simp[vN]
  unfold vO;rw[if_pos h];rfl
end
end Go.Sx
namespace Go.Proofs
open Go Go.Sx
attribute [local irreducible] Go.Sx.Tri
def H8(x:KB×Int):XV:=[uS x.1,uI x.2]
theorem app31:AppP 31 3 1 Aw:=appG Tryz.underlying31 (by kernel_rfl) (by kernel_rfl) (by kernel_rfl) (by kernel_rfl) (by kernel_rfl) (by decide) (by intro _;rfl) λx u hu=>by simp only[Aw,zJ,xT,or_false]at hu;subst hu;rfl
theorem app191:AppP 191 48 2 H8:=appG Tryz.underlying191 (by kernel_rfl) (by kernel_rfl) (by kernel_rfl) (by kernel_rfl) (by kernel_rfl) (by decide) (by intro _;rfl) λx u hu=>by simp only[H8,zJ,xT,or_false]at hu;rcases hu with rfl|rfl<;>rfl
theorem app32:AppP 32 121 2 Nd.row:=appG Tryz.underlying32 (by kernel_rfl) (by kernel_rfl) (by kernel_rfl) (by kernel_rfl) (by kernel_rfl) (by decide) (by intro _;rfl) λx u hu=>by simp only[Nd.row,Sl.v,zJ,xT,or_false]at hu;rcases hu with rfl|rfl<;>rfl
theorem Hn{V:Mem}{b:Nat}{n:Int}{t:Nat}(h:V b=some (.cells #[uI n] t (0,0))):Ae V ⟨some ⟨b,0,none⟩,1,1⟩ 1 ([n].map Aw):=
 Ae.cells (xs:=[n]) (row:=Aw) h rfl (λ_=>rfl) rfl (by simp)
section
variable{V0 V V1:Mem}{d:Ds}{m:Mm}{p ib:Nat}{st:Sr}{o:Sl}
theorem Am.at2{V:Mem}{b:Nat}{c:XQ}{t off:Nat}{vs:XV}{q:Mem->Prop}(h:V b=some (.cells c t (0,0)))(u:off+vs.length<=c.size)
  (z:q (V.set b (.cells (c.toList.take off++vs++c.toList.drop (off+vs.length)).toArray t (0,0)))):Am (Aa (sa b) off) 0 vs V q:=by
 have e:Aa (sa b) off=some ⟨b,off,none⟩:=by
  unfold Aa Addr.add;simp only[Option.map_some];split<;>simp_all
 rw[e];exact⟨⟨b,off,none⟩,c,t,rfl,h,rfl,by simpa using u,by simpa using z⟩
def srow(d:Ds)(m:Mm)(o:Sl)(ib:Nat)(a:Int):XV:=[Go.Sx.vS d.name,d.ts.v,d.gs.v,d.ps.v,d.ms.v,d.is.v,d.qs.v,d.bs.v,m.gs.v,m.ns.v,o.v,.map (some ib),uI a]
structure SrAt (V0:Mem)(d:Ds)(m:Mm)(p ib:Nat)(V:Mem)(st:Sr)(o:Sl):Prop where
 at_:V p=some (.cells (srow d m o ib st.again).toArray 274 (0,0))
 own:Sx.Own V0 V 3 1 o (st.order.flatMap Aw)
 map:∃f:Int->Option Int,B2 (vP .i64) V ib (λn=>(f n).map (vP .i64))/\∀n,(n∈st.order->∃j,f n=some j/\1<=j)/\(¬n∈st.order->f n=none)
 cap:st.order.length+B7 m st<=m.nodes.length
 rng:∀x∈st.order,1<=x/\x<=(m.nodes.length:Int)
structure LR (V0:Mem)(d:Ds)(m:Mm)(p ib:Nat):Prop where
 valid:A8 d=true
 mem:BX d m=true
 ds:Ds.Ok V0 d
 mm:Mm.Ok V0 m
 p0:V0 p=none
 i0:V0 ib=none
 pi:p≠ib
theorem SrAt.cell(h:SrAt V0 d m p ib V st o)(i n:Nat)(hi:i+n<=13):V.rowp (sa p) i n=some (((srow d m o ib st.again).drop i).take n):=Aj h.at_ i n hi
theorem unS_le{a b:Sr}(h:∀x∈a.order,x∈b.order):B7 m b<=B7 m a:=by
 unfold B7;refine IZ λi _ u=>?_;simp only[zo,decide_eq_false_iff_not]at u⊢;exact λk=>u (h _ k)
theorem unS_lt{n:Int}(z:1<=n/\n<=(m.nodes.length:Int))(h:¬n∈st.order){a:Int}:B7 m ⟨st.order++[n],a⟩<B7 m st:=by
 unfold B7;obtain⟨i,rfl⟩:∃i:Nat,n=(i:Int)+1:=⟨(n-1).toNat,by omega⟩;refine Kf (λj _ u=>?_) i (yo.2 (by omega)) (by simpa using h) (by simp);simp only[zo,decide_eq_false_iff_not]at u⊢;exact λk=>u (vu _ k)
theorem ref_in{xs:XX}{vs:XZ}(h:AE d m xs vs=true){i:Nat}{f:Fld}{v:Int}(r:xs[i]?=some f)(y:vs[i]?=some v)(z:C4 f.ty=false)(q:v≠0):1<=v/\v<=(m.nodes.length:Int):=by
 obtain⟨N,u,l⟩:=IU h r;rw[y]at u;cases u;unfold C4 at z;simp only[vX,decide_eq_false_iff_not]at z;unfold AW at l;rw[if_neg z.1,if_neg z.2,decide_eq_true_eq]at l;rcases l with h|⟨H,J,-⟩;.exact absurd h q
 .exact⟨H,J⟩
def SrPost(V0:Mem)(d:Ds)(m:Mm)(p ib:Nat)(st:Sr):RP:=λe V'=>e=rT #[]/\∃o,SrAt V0 d m p ib V' st o
variable(V0 d m p ib)in
def EntC(N:Nat):Prop:=∀(st:Sr)(n:Int)(f:Nat) V o,SrAt V0 d m p ib V st o->1<=n/\n<=(m.nodes.length:Int)->B7 m st<=N->B7 m st<f->
 Tri xV 308 #[pv p,uI n] V (SrPost V0 d m p ib (Bl d m f st n))
theorem lookC{N:Nat}(hE:EntC V0 d m p ib N){l s:Sl}{xs:XX}{vs:XZ}(hl:Ae V0 l 2 (xs.map Fld.row))(hs:Ae V0 s 1 (vs.map Aw))(hv:AE d m xs vs=true){f:Nat}(h:SrAt V0 d m p ib V st o)(hN:B7 m st<=N)(hf:B7 m st<f):
  Tri xV 256 #[pv p,l.v,s.v] V (SrPost V0 d m p ib ((DN xs vs).foldl (Bl d m f) st)):=by
 refine Tri.mono (x256 (R:=SrPost V0 d m p ib ((DN xs vs).foldl (Bl d m f) st)) ?_) λ_ _ h=>h;have hlen:xs.length=vs.length:=by
  unfold AE at hv;rw[zD,decide_eq_true_eq]at hv;exact hv.1
 refine EJ xs.length (λi V1=>∃W,SrAt V0 d m p ib V1 ((tgtI xs vs i).foldl (Bl d m f) st) W) ⟨o,by rw[tgtI_zero];exact h⟩ ?_;rintro i V1 J hi ⟨W,Y⟩ L;have u:=hl.sub Y.own.sub;have O:=hs.sub Y.own.sub;refine⟨λr=>?_,λX=>?_⟩
 .obtain⟨x,hxm,B,-,Z,hp,C,A⟩:=u.get r;have n1:=u.n_eq;have n2:=O.n_eq;obtain⟨y,hym,D,-,hjl,I,M,q⟩:=O.get (i:=i) (by omega);have hu:B7 m ((tgtI xs vs i).foldl (Bl d m f) st)<=B7 m st:=unS_le λz C=>foldP_sub d m f z _ _ C;have same:DM (x,y)=false->∃K,SrAt V0 d m p ib V1 ((tgtI xs vs (i+1)).foldl (Bl d m f) st) K:=λS=>by
   rw[Ki B D,S,if_neg (by decide),List.append_nil];exact⟨W,Y⟩
  refine⟨hp,C,r,_,_,A,c183.call ⟨_,rfl,λU=>⟨u.succ r,L Z _ (same ?_)⟩,λU=>⟨I,M,by omega,_,q,λH=>⟨u.succ r,L Z _ (same ?_)⟩,λH=>⟨I,M,by omega,_,q,?_⟩⟩⟩⟩;.unfold DM;rw[show C4 x.ty=true from U];rfl
  .have H:y=0:=H;unfold DM;rw[H];simp
  .have F:C4 x.ty=false:=(vU _).mp U;have H:¬y=0:=H;have S:DM (x,y)=true:=by unfold DM;rw[F,decide_eq_true H];rfl
   refine Tri.mono (hE _ y f V1 W Y (ref_in hv B D F H) (by omega) (by omega)) ?_;rintro _ V2 ⟨rfl,K,h4⟩;refine⟨rfl,u.succ r,L Z _ ⟨K,?_⟩⟩;rw[Ki B D,S,if_pos rfl,List.foldl_append,List.foldl_cons,List.foldl_nil];exact h4
 .have hd:=(u.done X).2;rw[tgtI_all hd]at Y;exact⟨rfl,W,Y⟩
theorem enterC(S:LR V0 d m p ib)(N:Nat)(ih:∀N',N'<N->EntC V0 d m p ib N'):EntC V0 d m p ib N:=by
 intro st n f V o h hn hN hf;obtain⟨f,rfl⟩:∃f',f=f'+1:=⟨f-1,by omega⟩;refine Tri.mono (x308 (R:=SrPost V0 d m p ib (Bl d m (f+1) st n)) ?_) λ_ _ h=>h;obtain⟨g,hg,J⟩:=h.map;refine⟨nn,nn,_,h.cell 11 1 (by decide),BE.key1 (k:=n) (keyInt vH) vt IX hg ?_⟩;by_cases l:n∈st.order
 .obtain⟨j,hj,hj1⟩:=(J n).1 l;rw[hj];refine⟨j,rfl,λH=>?_,λ_=>⟨nn,nn,_,h.cell 12 1 (by decide),λH=>⟨nn,nn,?_⟩,λH=>?_⟩⟩
  .have H:j=0:=H;omega
  .have H:st.again=0:=H;have e:Bl d m (f+1) st n=⟨st.order,n⟩:=by unfold Bl;rw[if_pos l,if_pos H]
   rw[e];refine Am.at2 (off:=12) h.at_ (by simp[srow]) ⟨rfl,o,?_,h.own.put (h.own.apart λz y=>?_) S.p0 _,⟨g,hg.set S.pi.symm,J⟩,h.cap,h.rng⟩;.rw[Mem.set_same];rfl
   .rw[h.at_]at y;cases y
  .have H:¬st.again=0:=H;have e:Bl d m (f+1) st n=st:=by unfold Bl;rw[if_pos l,if_neg H]
   rw[e];exact⟨rfl,o,h⟩
 .rw[(J n).2 l];have hcap:=h.cap;have hlt:=unS_lt (st:=st) hn l (a:=st.again);refine⟨0,rfl,λ_=>⟨nn,nn,o,h.cell 10 1 (by decide),λtb Z=>?_⟩,λH=>absurd rfl H⟩;have pne:∀z,V p≠some (.cells z 3 (0,0)):=λz y=>by rw[h.at_]at y;cases y
  have ine:∀z,V ib≠some (.cells z 3 (0,0)):=λz y=>by
   obtain⟨e1,c1,M,-⟩:=hg.at_;rw[M]at y;cases y
  have hpt:tb≠p:=λe=>by rw[e,h.at_]at Z;cases Z
  have hit:tb≠ib:=λe=>by
   obtain⟨e1,c1,M,-⟩:=hg.at_;rw[e,M]at Z;cases Z
  have m4:=(BR S.mem).2.1;have F:=(h.own.but).new Z (.cells #[uI n] 3 (0,0));refine app31 (s:=o) (u:=⟨some ⟨tb,0,none⟩,1,1⟩) (xs:=st.order) (ys:=[n]) rfl rfl F (Hn Av) (by simp;omega) λY V2 ho2=>⟨Y,rfl,nn,nn,?_⟩;have A:=ho2.sub;have hp2:V2 p=some (.cells (srow d m o ib st.again).toArray 274 (0,0)):=A _ _ (Mem.but_at h.at_ (h.own.apart pne));have hg2:B2 (vP .i64) V2 ib λn=>(g n).map (vP .i64):=by
   obtain⟨e1,c1,M,k2⟩:=hg.at_;exact⟨e1,c1,A _ _ (Mem.but_at M (h.own.apart ine)),k2⟩
  have ho3:Sx.Own V0 V2 3 1 Y ((st.order++[n]).flatMap Aw):=ho2.narrow h.own.sub_but;refine Am.at2 (off:=10) hp2 (by simp[srow]) ?_;obtain⟨V3,O⟩:∃V3,V3=V2.set p (.cells (srow d m Y ib st.again).toArray 274 (0,0)):=⟨_,rfl⟩;have L:V2.set p (.cells ((srow d m o ib st.again).toArray.toList.take 10++[uL Y]++(srow d m o ib st.again).toArray.toList.drop (10+[uL Y].length)).toArray 274 (0,0))=V3:=O.symm;have X:V3 p=some (.cells (srow d m Y ib st.again).toArray 274 (0,0)):=by rw[O,Mem.set_same]
  have hg3:B2 (vP .i64) V3 ib λn=>(g n).map (vP .i64):=by rw[O];exact hg2.set S.pi.symm
  have pne2:∀z,V2 p≠some (.cells z 3 (0,0)):=λz y=>by rw[hp2]at y;cases y
  have B:Sx.Own V0 V3 3 1 Y ((st.order++[n]).flatMap Aw):=by rw[O];exact ho3.put (ho3.apart pne2) S.p0 _
  show ¬_/\_;rw[L];refine⟨nn,nn,_,Aj X 11 1 (by simp[srow]),nn,nn,Y,Aj X 10 1 (by simp[srow]),Co.key (k:=n) (keyInt vH) vt hg3 λob hob=>?_⟩;have hn2:=B.n_eq (λ_=>rfl) (by decide);have h5:SrAt V0 d m p ib (V3.set ib ob) ⟨st.order++[n],st.again⟩ Y:=by
   refine⟨by rw[Mem.set_ne S.pi];exact X,B.put (B.apart λz y=>?_) S.i0 _,⟨λx=>if x=n then some (Y.n:Int)else g x,hob.congr λx=>?_,λx=>⟨λr=>?_,λr=>?_⟩⟩,?_,λx r=>?_⟩
   .obtain⟨e1,c1,M,-⟩:=hg3.at_;rw[M]at y;cases y
   .by_cases r:x=n<;>simp[r]
   .by_cases C:x=n
    .refine⟨Y.n,by simp[C],?_⟩;rw[hn2,zK,zL];omega
    .obtain⟨j,hj,hj1⟩:=(J x).1 (by simpa [C]using r);exact⟨j,by simp[C,hj],hj1⟩
   .have hx':¬x∈st.order/\¬x=n:=by simpa using r
    simp[hx'.2,(J x).2 hx'.1]
   .show(st.order++[n]).length+_<=_;rw[zK,zL];omega
   .rcases List.mem_append.1 r with r|r;.exact h.rng x r
    .rw[List.mem_singleton.1 r];exact hn
  obtain⟨q,rfl⟩:∃q:Nat,n=(q:Int)+1:=⟨(n-1).toNat,by omega⟩;have D:=S.mm.sub h5.own.sub;have hdd:=S.ds.sub h5.own.sub;have hnn:=D.nodes.n_eq;obtain⟨x,K,r,-,hl2,hpx,hzx,U⟩:=D.nodes.get (i:=q) (by omega);have hty:=(BR S.mem).2.2.1 x K;obtain⟨c1,c2⟩:=of_decide_eq_true hty;obtain⟨j,hj⟩:∃j:Nat,x.ty=(j:Int):=⟨_,(vQ c1).symm⟩;have htn:=hdd.types.n_eq;obtain⟨t,htm,ht,-,hl3,I,hzt,hrowt⟩:=hdd.types.get (i:=j) (by omega);have hI:IR ((q:Int)):=⟨by omega,by have:=(D.nodes.succ (i:=q) (by omega)).2;omega⟩;rw[show((q:Int)+1-1)=(q:Int)by omega];refine⟨nn,nn,AJ,m.ns,h5.cell 9 1 (by decide),hI,hpx,hzx,by omega,_,_,U,nn,nn,AJ,d.ts,h5.cell 1 1 (by decide),?_⟩;rw[hj];have hfo:=Ew ht hj;have W:=(BR S.mem).2.2.2.2 x K;rw[hfo]at W;refine⟨I,hzt,by omega,Ai I,_,_,hrowt,Tri.mono (lookC (ih (B7 m ⟨st.order++[(q:Int)+1],st.again⟩) (by omega)) (S.ds.typesOk t htm).fields (S.mm.nodesOk x K).rows W (f:=f) h5 (yu _) (by omega)) ?_⟩;rintro _ V5 ⟨rfl,o5,h6⟩;refine⟨rfl,rfl,o5,?_⟩;have e:Bl d m (f+1) st ((q:Int)+1)=(DN t.fields x.f).foldl (Bl d m f) ⟨st.order++[(q:Int)+1],st.again⟩:=by
   rw[Bl,if_neg l];unfold Fi;rw[show((q:Int)+1-1).toNat=q by omega,r];show(DN (B3 d x.ty) x.f).foldl _ _=_;rw[hfo]
  rw[e];exact h6
theorem entAll(S:LR V0 d m p ib):∀N,EntC V0 d m p ib N:=λN=>yx N λN u=>enterC S N u
end
section
variable{V:Mem}{d:Ds}{m:Mm}
theorem c193(hv:A8 d=true)(u:BX d m=true)(r:Ds.Ok V d)(hm:Mm.Ok V m):Tri xV 193 #[d.v,m.v] V λe V'=>∃p ib o,e=.returned (pv p)/\SrAt V d m p ib V' (BN d m) o:=by
 refine x193 ?_;refine GenK.makeMap λib z=>⟨some ib,rfl,λp y=>?_⟩;have q:p≠ib:=λe=>by rw[e,Mem.set_same]at y;cases y
 have l:V p=none:=by rw[Mem.set_ne q]at y;exact y
 have N:=Mem.sub_new z (.map #[] 0);have H:=Mem.sub_new y (.cells (srow d m ⟨none,0,0⟩ ib 0).toArray 274 (0,0));have S:LR V d m p ib:=⟨hv,u,r,hm,l,z,q⟩;have J:SrAt V d m p ib ((V.set ib (.map #[] 0)).set p (.cells (srow d m ⟨none,0,0⟩ ib 0).toArray 274 (0,0))) ⟨[],0⟩ ⟨none,0,0⟩:=
  ⟨Mem.set_same _ _ _,Own.nil (N.trans H) _ _,⟨λ_=>none,(((B2.made V ib).sub H)).congr λ_=>rfl,λ_=>⟨λh=>by simp at h,λ_=>rfl⟩⟩,by
   show 0+B7 m ⟨[],0⟩<=_;unfold B7;have:=List.length_filter_le (λi:Nat=>!decide (((i:Int)+1)∈(⟨[],0⟩:Sr).order)) (zC m.nodes.length);rw[List.length_range]at this;omega,λx h=>by simp at h⟩
 have hu:B7 m ⟨[],0⟩<=m.nodes.length:=by have:=J.cap;simp at this;omega
 refine Tri.mono (lookC (entAll S m.nodes.length) r.globals hm.globals (BR u).2.2.2.1 (f:=m.nodes.length+1) J hu (by omega)) ?_;rintro _ V2 ⟨rfl,o,h⟩;exact⟨rfl,p,ib,o,rfl,h⟩
theorem c144[Tab V](hv:A8 d=true)(u:BX d m=true)(z:Ds.Ok V d)(hm:Mm.Ok V m):Tri xV 144 #[d.v,m.v] V λe V'=>∃o:Sl,e=rT #[uL o,uI 0]/\Sx.Own V V' 3 1 o ((BN d m).order.flatMap Aw)/\(BN d m).order.length<=m.nodes.length/\∀x∈(BN d m).order,1<=x/\x<=(m.nodes.length:Int):=by
 refine x144 ?_;refine(c102 z hm).call ⟨_,rfl,λ_=>Tri.mono (c193 hv u z hm) ?_,λh=>absurd u h⟩;rintro _ V2 ⟨p,ib,o,rfl,h⟩;have y:=h.cap;exact⟨_,rfl,nn,nn,o,h.cell 10 1 (by decide),o,rfl,h.own,by omega,h.rng⟩
end
end Go.Proofs
