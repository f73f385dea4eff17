/- Part 12: no statement of the seat is proved here. -/
import Derived.Test.YtgdmkmfchcflpaaGreatDoorPe11
set_option linter.unusedVariables false
set_option linter.unusedSimpArgs false
open List renaming replicate->yJ,foldl_append->vH,length_append->zw,length_replicate->vx,getElem?_set_self->vw,getElem?_set_ne->vu,getElem?_append_left->vt,getElem?_append_right->vq,mem_cons_self->zb,foldl_cons->wm,mem_cons_of_mem->za,length_set->vp,map_cons->zG,nodup_cons->yU,mem_cons->yD,getElem?_eq_some_iff->yv,mem_map_of_mem->vo,mem_append->wZ,mem_replicate->vm,length_take->wX,length_drop->wY,length_map->wq,length_range->vl,mem_map->wc,append_nil->xp,flatMap_cons->yc,length_cons->zy,mem_iff_getElem?->wb,nil_append->vX,getElem?_eq_getElem->yu,getElem?_map->y4,getElem_mem->yo,take_add_one->wh,append_assoc->zH,take_of_length_le->wH,getElem?_eq_none_iff->vC,map_congr_left->vk,length_zip->wg,mem_of_getElem?->xQ,all_eq_true->z6,not_mem_nil->xC,nodup_iff_pairwise_ne->vi,pairwise_iff_getElem->vh,getElem_map->vg,mem_take_iff_getElem->vf,range->zB,map_append->yP,mem_singleton->zO,map_nil->ve,cons_append->zI,length_nil->uC,eq_nil_of_length_eq_zero->ya,length_pos_iff->uE,flatten_cons->uF,take_append_drop->vz,mem_append_left->we,nodup_append->uJ,idxOf_lt_length_of_mem->uK,idxOf_append->uN,zipIdx_cons->uO,length->uQ,sum_append->uR,sum_cons->uT,mk_mem_zipIdx_iff_le_and_getElem?_sub->uV,mem_zipIdx_iff_getElem?->uW,drop_left->uX,length_zipIdx->uY
open Nat renaming mul_le_mul_right->y5,le_refl->yV,mul_one->wy,add_div_right->uG,div_eq_of_lt->uH,mul_div_le->uU,mul_add->uZ
open Option.some renaming injEq->zF
open Go.Proofs.Tryz renaming prog->xE
open Option renaming map_some->zJ
open Prod.mk renaming inj->wJ
open Bool renaming and_eq_true->zC
open Go.Value renaming int->xw,bool->vj
open Int renaming toNat_natCast->vM
open Go.IntKind renaming signed->zQ,bits->zR
open List.cons renaming injEq->yE
namespace Go.Proofs
open Go Go.Sx
structure Dk where
 page:Int
 data:List Int
 syn:Int
 aft:Int
def AY(k:Dk):Bool:=decide (8<=k.page/\k.page<=256/\k.data.length<=1048576/\-1<=k.aft/\k.aft<=1048576/\0<=k.syn/\k.syn<=(Ao k.page.toNat k.data).2)
def zeroP(page:Nat):List Int:=yJ page 0
def CB(page:Nat)(out:List (List Int))(x:Int×List Int):List (List Int):=(out++yJ (x.1.toNat+1-out.length) (zeroP page)).set x.1.toNat x.2
def Fb(page:Nat)(l:List (List (Int×List Int))):List (List Int):=l.flatten.foldl (CB page) []
def Bh(k:Dk):List (List Int):=Fb k.page.toNat (Ao k.page.toNat k.data).1
theorem Mt(page:Nat)(l:List (List (Int×List Int)))(x:List (Int×List Int)):Fb page (l++[x])=x.foldl (CB page) (Fb page l):=by
 simp[Fb,List.flatten_append,vH]
theorem setPg_get{page:Nat}{out:List (List Int)}{x:Int×List Int}(i:Nat):(CB page out x)[i]?=if i=x.1.toNat then some x.2 else if i<out.length then out[i]? else if i<x.1.toNat then some (zeroP page)else none:=by
 have f:x.1.toNat<(out++yJ (x.1.toNat+1-out.length) (zeroP page)).length:=by
  rw[zw,vx];omega
 unfold CB;by_cases e:i=x.1.toNat;·rw[if_pos e,e,vw f]
 rw[if_neg e,vu (Ne.symm e)];by_cases h:i<out.length;·rw[if_pos h,vt h]
 rw[if_neg h,vq (by omega),List.getElem?_replicate];by_cases g:i<x.1.toNat;·rw[if_pos g,if_pos (by omega)]
 ·rw[if_neg g,if_neg (by omega)]
theorem KW{page:Nat}:∀(l:List (Int×List Int))(out:List (List Int))(i:Nat),(∀x∈l,x.1.toNat≠i)->i<out.length->(l.foldl (CB page) out)[i]?=out[i]?
 |[],_,_,_,_=>rfl
 |x::l,out,i,h,g=>by
  have f:=h x zb;have t:∀j,(CB page out x)[j]?=_:=λj=>setPg_get j;rw[wm,KW l _ i (λy u=>h y (za _ u)) ?_,t,if_neg (Ne.symm f),if_pos g];unfold CB;rw[vp,zw];omega
theorem fold_at{page:Nat}:∀(l:List (Int×List Int))(out:List (List Int)),(l.map (·.1)).Nodup->(∀x∈l,0<=x.1)->∀x∈l,(l.foldl (CB page) out)[x.1.toNat]?=some x.2
 |[],_,_,_,_,h=>by cases h
 |y::l,out,f,t,x,u=>by
  rw[zG,yU]at f;have q:=t y zb;rw[wm];rcases yD.1 u with rfl|u
  ·have w:(CB page out x)[x.1.toNat]?=some x.2:=by rw[setPg_get,if_pos rfl]
   rw[KW l _ _ (λz g e=>f.1 ?_) (yv.1 w).1,w];have j:=t z (za _ g);have:z.1=x.1:=by omega
   rw[<-this];exact vo g
  ·exact fold_at l _ f.2 (λz g=>t z (za _ g)) x u
theorem fold_page{page:Nat}:∀(l:List (Int×List Int))(out:List (List Int)),(∀x∈l,x.2.length=page)->(∀p∈out,p.length=page)->∀p∈l.foldl (CB page) out,p.length=page
 |[],_,_,h=>h
 |x::l,out,f,h=>by
  rw[wm];refine fold_page l _ (λy t=>f y (za _ t)) λp g=>?_;unfold CB at g;rcases List.mem_or_eq_of_mem_set g with g|rfl
  ·rcases wZ.1 g with g|g;·exact h p g
   ·rw[(vm.1 g).2];simp[zeroP]
  ·exact f x zb
theorem pgAt_len{page:Nat}{b:List Int}{n i:Nat}(hi:i<n)(f:4+n*(4+page)<=b.length):(pgAt page b i).2.length=page:=by
 have g:(i+1)*(4+page)<=n*(4+page):=y5 _ hi;rw[Nat.succ_mul]at g;unfold pgAt;rw[wX,wY];omega
theorem parse_page{page:Nat}{b:List Int}{l:List (Int×List Int)}{s:Nat}(h:BH page b=some (l,s)):okPg l=true/\l.length<=1000/\∀x∈l,x.2.length=page:=by
 unfold BH at h;simp only at h;split at h;·cases h
 split at h;·cases h
 rename_i w g;split at h
 ·rename_i f;simp only[zF,Prod.mk.injEq]at h;obtain⟨rfl,rfl⟩:=h;simp only[not_or,Nat.not_lt]at g;refine⟨f,by rw[wq,vl];omega,λx t=>?_⟩;obtain⟨i,u,rfl⟩:=wc.1 t;exact pgAt_len (List.mem_range.1 u) (by omega)
 ·cases h
theorem KY(page:Nat):∀(n:Nat)(b:List Int),b.length<=n->∀l∈(Ao page b).1,∀x∈l,x.2.length=page/\0<=x.1/\x.1<1000
 |n,b,h=>by
  rw[Fy];cases t:BH page b with
  |none=>intro l g;cases g
  |some x=>
   obtain⟨z,s⟩:=x;have j:=F7 t;obtain⟨u,q,w⟩:=parse_page t;intro l g x f;rcases yD.1 g with rfl|g;·exact⟨w x f,(Ia u).1 x f⟩
   ·cases n with
    |zero=>omega
    |succ n=>exact KY page n (b.drop s) (by rw[wY];omega) l g x f
theorem K0(k:Dk):∀p∈Bh k,p.length=k.page.toNat:=by
 refine fold_page _ _ (λx g=>?_) (by simp);obtain⟨l,f,g⟩:=List.mem_flatten.1 g;exact(KY _ _ _ (yV _) l f x g).1
def CJ(k:Dk)(b:List Int):Dk×Int:=
 let n:=(Ao k.page.toNat k.data).2
 if k.aft=0 then(k,27)
 else if k.aft<0∨(b.length:Int)<=k.aft then(⟨k.page,k.data.take n++b,n+b.length,if 0<k.aft then k.aft-b.length else k.aft⟩,0)
 else(⟨k.page,k.data.take n++b.take k.aft.toNat,n,0⟩,27)
theorem write_recs{k:Dk}{l:List (Int×List Int)}(f:l.length<=1000)(t:okPg l=true)(h:∀x∈l,x.2.length=k.page.toNat):Ao k.page.toNat (k.data.take (Ao k.page.toNat k.data).2++AF l)=((Ao k.page.toNat k.data).1++[l],(Ao k.page.toNat k.data).2+(AF l).length):=by
 rw[Jt _ _ _ _ (yV _)];have g:=parse_rec f t h [];rw[xp]at g;have e:Ao k.page.toNat (AF l)=([l],(AF l).length):=by
  rw[Fy,g];simp only[List.drop_length,Ib];rfl
 rw[e]
theorem K1{k:Dk}{l:List (Int×List Int)}(g:l.length<=1000)(h:∀x∈l,x.2.length=k.page.toNat){j:Nat}(f:j<(AF l).length):Ao k.page.toNat (k.data.take (Ao k.page.toNat k.data).2++(AF l).take j)=Ao k.page.toNat k.data:=by
 rw[Jt _ _ _ _ (yV _),KV (parse_torn g h f)];simp
end Go.Proofs
namespace Go.Proofs
open Go Go.Sx
attribute [local irreducible] Go.Sx.Tri
section
variable{V V0:Mem}{sp sd:Sl}{l:List (Int×List Int)}
structure Pg (V:Mem)(sp sd:Sl)(l:List (Int×List Int)):Prop where
 nums:Ad V sp 1 ((l.map (·.1)).map Am)
 data:Ls V sd (l.map (·.2))
theorem Pg.sub{V':Mem}(h:Pg V sp sd l)(g:V.sub V'):Pg V' sp sd l:=⟨h.nums.sub g,h.data.sub g⟩
theorem pgs_len(g:∀x∈l,x.2.length<=256):(l.flatMap Dt).length<=260*l.length:=by
 induction l with
 |nil=>simp
 |cons x l f=>
  have:=f λy t=>g y (za _ t);have:=g x zb;rw[yc,zw,Dt,zw,DV,zy];omega
theorem Ls.b{xs:List (List Int)}{s:Sl}(h:Ls V s xs){x:List Int}(g:x∈xs):An x:=by
 obtain⟨i,f⟩:=wb.1 g;obtain⟨u,-,-,t⟩:=h.get f;exact t.b
theorem pgs_b(h:Pg V sp sd l):An (l.flatMap Dt):=λy g=>by
 obtain⟨x,f,g⟩:=List.mem_flatMap.1 g;rcases wZ.1 g with g|g;·exact put4_b _ y g
 ·exact h.data.b (vo f) y g
theorem Og(h:Pg V sp sd l)(R:∀x∈l,K.inR .i64 x.1)(hn:l.length<=1000)(f:∀x∈l,x.2.length<=256):Tri xE 99 #[sp.v,sd.v] V λe V'=>∃s:Sl,e=.returned s.v/\Sx.Own V V' 5 1 s ((AF l).flatMap AS):=by
 have N:sp.n=l.length:=by rw[h.nums.n_eq,wq]
 refine NW ?_;refine Tri.mono (c139 (V0:=V) (s:=Ah) (b:=[]) (Own.nil (Mem.sub.refl V) _ _) (by simp) (n:=(sp.n:Int)) ⟨by omega,by omega⟩) ?_;rintro _ V1 ⟨X,rfl,I⟩;refine⟨X,rfl,?_⟩;rw[vX,N]at I;refine Cz (mk:=λs:Sl=>.slice s.p s.n s.c) AG l.length (λi u V2=>Sx.Own V V2 5 1 u ((put4 l.length++(l.take i).flatMap Dt).flatMap AS)) (by simpa using I) ?_;intro i u V2 J hi o2 B;have M:=pgs_len f;refine⟨λg=>?_,λw=>?_⟩
 ·have g:(i:Int)<(sp.n:Int):=g;have t:i<l.length:=by omega
  obtain⟨y,-,Z,-,-,C,Y,z⟩:=(h.nums.sub o2.sub).get g;have j:=yu t;obtain⟨v,q,a,P⟩:=h.data.get (i:=i) (by rw[y4,j];rfl);rw[y4,j]at Z;simp only[zJ,zF]at Z;subst Z;have hm:l[i]∈l:=yo t;have E:((l.take i).flatMap Dt).length<=260*1000:=by
   have:=pgs_len (l:=l.take i) λx j=>f x (List.mem_of_mem_take j);rw[wX]at this;omega
  have L:sd.n=l.length:=by rw[h.data.n,wq]
  refine⟨C,Y,g,_,z,q,Y,by omega,v,o2.sub.rowp a,?_⟩;refine Tri.mono (c139 o2 (by rw[zw,DV];omega) (R _ hm)) ?_;rintro _ S ⟨G,rfl,H⟩;refine⟨G,rfl,E7 (H.sub.rowp a),q,Y,by omega,?_⟩;refine Ek (s:=G) (u:=v) (ys:=l[i].2) rfl rfl H (P.sub H.sub).rows (by
   have:=f _ hm;rw[zw,zw,DV,DV];omega) λT V4 U=>⟨T,rfl,⟨by omega,by omega⟩,B t _ _ ?_⟩
  have e:(l.take (i+1)).flatMap Dt=(l.take i).flatMap Dt++(put4 l[i].1++l[i].2):=by
   rw[wh,j,List.flatMap_append];simp[Dt]
  rw[e,<-zH,<-zH];exact U
 ·have w:¬(i:Int)<(sp.n:Int):=w;rw[wH (by omega)]at o2;have hb:An (recB l):=(put4_b _).app (pgs_b h);have A:Bt V2 u (recB l):=Own.bt o2 hb;have hs:=sumF_in (recB l);refine(c123 A).call ⟨_,rfl,⟨by omega,by omega⟩,?_⟩;refine Tri.mono (c139 o2 (by rw[zw,DV];omega) ⟨by omega,by omega⟩) ?_;rintro _ S ⟨G,rfl,H⟩;exact⟨_,rfl,G,rfl,H⟩
end
section
variable{d:Ds}{F:Nat}{m m':Mm}
theorem Oh(h:m.plain=m'.plain)(n:Int):nodeTgt d m n=nodeTgt d m' n:=by
 unfold nodeTgt;cases g:m.nodes[(n-1).toNat]? with
 |some x=>
  obtain⟨y,f,t,u⟩:=Jg h g;rw[f];simp only[t,u]
 |none=>
  have:m'.nodes[(n-1).toNat]?=none:=by
   rw[vC]at g⊢;rw[<-H0 h];exact g
  rw[this]
theorem Mu(h:m.plain=m'.plain):∀f:Nat,AW d m f=AW d m' f
 |0=>by funext st n;rw[AW,AW]
 |f+1=>by
  funext st n;rw[AW,AW,Oh h,Mu h f]
theorem reachP_plain(h:m.plain=m'.plain):AJ d m=AJ d m':=by
 have g:m.globals=m'.globals:=(wJ h).1;unfold AJ lookP;rw[H0 h,Mu h,g]
theorem K2(h:m.plain=m'.plain):Bx d m=Bx d m':=by
 have f:m.globals=m'.globals:=(wJ h).1;unfold Bx;rw[reachP_plain h,f];refine Prod.ext rfl (vk λn _=>?_);cases g:m.nodes[(n-1).toNat]? with
 |some x=>
  obtain⟨y,t,u,w⟩:=Jg h g;rw[t];simp only[u,w]
 |none=>
  have:m'.nodes[(n-1).toNat]?=none:=by
   rw[vC]at g⊢;rw[<-H0 h];exact g
  rw[this]
end
section
variable{d:Ds}{m c:Mm}{O:List Int}
structure Ren (d:Ds)(m c:Mm)(O:List Int):Prop where
 good:BR d m
 rch:Hr d m O
 can:IsCan d m c O
theorem Ren.node(H:Ren d m c O){x:Int}(g:x∈O):∃(i:Nat)(n:Nd)(s:Sl),O[i]?=some x/\Cq O x=(i:Int)+1/\i<O.length/\m.nodes[(x-1).toNat]?=some n/\n∈m.nodes/\c.nodes[(Cq O x-1).toNat]?=some ⟨n.ty,s,Bi O (Bg d n.ty) n.f⟩:=by
 obtain⟨i,t,u,z⟩:=Hs H.rch g;have q:=H.rch.rng x g;have w:(x-1).toNat<m.nodes.length:=by omega
 obtain⟨s,j⟩:=H.can.at_ i x _ t (yu w);refine⟨i,_,s,t,u,z,yu w,yo _,?_⟩;rw[u,show((i:Int)+1-1).toNat=i by omega];exact j
theorem plain_not{t:KB}(h:Bo t=false):t≠AD/\t≠AR:=by
 unfold Bo at h;simpa using h
theorem ren_right(H:Ren d m c O){t:KB}{v:Int}(h:Ce d m t v=true)(w:Bo t=false->v=0∨v∈O):Ce d c t (if Bo t=true then v else Cq O v)=true:=by
 cases f:Bo t with
 |true=>
  rw[if_pos rfl];unfold Bo at f;unfold Ce at h⊢;by_cases g:t=AD;·rw[if_pos g]at h⊢;exact h
  ·rw[if_neg g]at h⊢;have u:t=AR:=by simpa [g]using f
   rw[if_pos u]at h⊢;exact h
 |false=>
  rw[if_neg (by decide)];obtain⟨g,u⟩:=plain_not f;unfold Ce at h⊢;rw[if_neg g,if_neg u,decide_eq_true_eq]at h⊢;rcases w f with rfl|hm;·exact .inl GH
  ·obtain⟨i,n,s,-,q,e2,z,-,j⟩:=H.node hm;have p:=H.rch.rng v hm;rw[j];rw[z]at h;have a:=H.can.len;refine .inr ⟨by omega,by omega,?_⟩;rcases h with h|h;·omega
   ·exact h.2.2
theorem Mv(H:Ren d m c O){l:List Fld}{vs:List Int}(h:Bb d m l vs=true)(J:∀y∈Cv l vs,y∈O):Bb d c l (Bi O l vs)=true:=by
 unfold Bb at h⊢;rw[zC,decide_eq_true_eq,Fu]at h⊢;obtain⟨Z,G⟩:=h;refine⟨by unfold Bi;rw[wq,wg];omega,λj x g=>?_⟩;have q:=(yv.1 g).1;have t:j<vs.length:=by unfold Bi at q;rw[wq,wg]at q;omega
 obtain⟨v,u⟩:∃v,vs[j]?=some v:=⟨_,yu t⟩;obtain⟨f,w⟩:∃f,l[j]?=some f:=⟨_,yu (by omega)⟩;rw[Ht w u]at g;have p:=G j v u;have z:tyAt l j=f.ty:=by unfold tyAt;rw[w];rfl
 rw[z]at p⊢;rw[<-Option.some.inj g];refine ren_right H p λN=>?_;by_cases a:v=0;·exact .inl a
 ·exact .inr (J v (Hq.2 ⟨j,f,w,u,N,a⟩))
theorem ren_tgtN(H:Ren d m c O){x:Int}(g:x∈O){n:Nd}(t:m.nodes[(x-1).toNat]?=some n):∀y∈Cv (Bg d n.ty) n.f,y∈O:=by
 have:=H.rch.shut x g;unfold Proofs.nodeTgt at this;rw[t]at this;exact this
theorem ren_good(H:Ren d m c O):BR d c:=by
 refine⟨H.good.valid,H.good.chk,?_⟩;obtain⟨p1,a,p3,j,q⟩:=DS H.good.mem;have v:=H.can.len;have J:=H.rch.cap;have nd:∀n∈c.nodes,∃x∈m.nodes,n.ty=x.ty/\Bb d c (Bg d n.ty) n.f=true:=λn g=>by
  obtain⟨i,w⟩:=wb.1 g;have p:=(yv.1 w).1;have t:O[i]?=some (O[i]'(by omega)):=yu _;have hm:=xQ t;have G:=H.rch.rng _ hm;have u:=yu (l:=m.nodes) (i:=((O[i]'(by omega))-1).toNat) (by omega);obtain⟨s,z⟩:=H.can.at_ i _ _ t u;rw[w]at z;cases z;exact⟨_,yo _,rfl,Mv H (q _ (yo _)) (ren_tgtN H hm u)⟩
 unfold AB;simp only[zC,z6,decide_eq_true_eq];refine⟨⟨⟨⟨p1,by omega⟩,λn g=>?_⟩,?_⟩,λn g=>?_⟩
 ·obtain⟨x,t,e,-⟩:=nd n g;have:=p3 x t;unfold DR at this⊢;rw[e];exact this
 ·rw[H.can.globals];exact Mv H j H.rch.glob
 ·obtain⟨x,t,e,h⟩:=nd n g;exact h
end
section
variable{V V0:Mem}{d:Ds}{F:Nat}{m:Mm}{l:Sl}{cs:List Oe}
theorem Ie{c:Mm}(G:BR d m)(I:IsCan d m c (AJ d m).order):BR d c:=ren_good ⟨G,GG G.mem,I⟩
end
theorem tri_frame{P:Program}{f:FuncId}{args:Array Value}{U:Mem}{M:Nat->Prop}{R:Ending->Mem->Prop}(H:∀b,M b->U b≠none)(h:Tri P f args (Mem.minus U M) R):
  Tri P f args U λe V2=>∃V',R e V'/\V'.sub V2/\(∀b o,M b->U b=some o->V2 b=some o)/\∀b,M b->V' b=none:=by
 unfold Tri at h⊢;intro w hw;have z:∀b,M b->b<w.heap.size:=λb g=>by
  cases q:U b with
  |none=>simp_all
  |some o=>exact(Array.getElem?_eq_some_iff.1 (hw b o q)).1
 intro cs;obtain⟨e,w',p,⟨V',a,t⟩,rest⟩:=h w (λb o g=>hw b o (GB b o g)) cs;have j:∀b,M b->V' b=none:=λb g=>by
  cases v:V' b with
  |none=>rfl
  |some o=>
   rcases t.dom b (by rw[v];simp)with u|u
   ·exact absurd (Do g) u
   grind
 classical
 refine⟨e,w',p,⟨λb=>if M b then U b else V' b,⟨V',a,λb o g=>?_,λb o hm g=>?_,j⟩,⟨t.size,λb o g=>?_,λb g q=>?_,λb g=>?_,t.os,t.out⟩⟩,rest⟩;·grind
 ·simp_all
 ·have g:(if M b then U b else V' b)=some o:=g;by_cases hm:M b
  ·rw[if_pos hm]at g;rw[t.old b (z b hm) (Do hm)];exact hw b o g
  ·rw[if_neg hm]at g;exact t.le b o g
 ·refine t.old b g ?_;grind[Do,Cn]
 ·have g:(if M b then U b else V' b)≠none:=g;by_cases hm:M b;·simp_all
  ·rw[if_neg hm]at g;rcases t.dom b g with u|u;·grind[Cn]
   ·exact .inr u
def Owns(Q:Mem->Mem->Prop)(M:Nat->Prop)(V:Mem):Prop:=(∀b,M b->V b≠none)/\∀V',(∀b o,M b->V b=some o->V' b=some o)->Q (Mem.minus V' M) V'
def Framed(Q:Mem->Mem->Prop):Prop:=∀W V,Q W V->∃M,(∀b,M b->W b=none)/\Owns Q M V
def Ar(D V:Mem)(Q:Mem->Mem->Prop):Prop:=∃M,Owns Q M V/\D.sub V/\∀b,D b≠none->¬M b
section
variable{D D' V V' W:Mem}{Q:Mem->Mem->Prop}
theorem Owns.keep{M:Nat->Prop}(h:Owns Q M V)(t:∀b o,M b->V b=some o->V' b=some o):Owns Q M V':=⟨λb g=>by
 cases f:V b with
 |none=>exact absurd f (h.1 b g)
 |some o=>simp_all,λV2 u=>h.2 V2 λb o g f=>u b o g (t b o g f)⟩
theorem Ar.sub(h:Ar D V Q):D.sub V:=by obtain⟨M,-,h,-⟩:=h;exact h
theorem Ar.new(t:Framed Q)(S:Q W V)(u:W.sub V)(g:D.sub W):Ar D V Q:=by
 obtain⟨M,j,w⟩:=t W V S;refine⟨M,w,g.trans u,λb z hm=>?_⟩;cases f:D b with
 |none=>exact z f
 |some o=>
  have:=g _ _ f;simp_all
theorem Ar.use(h:Ar D V Q):∃W,D.sub W/\W.sub V/\Q W V:=by
 obtain⟨M,f,t,u⟩:=h;exact⟨Mem.minus V M,λb o g=>by
  rw[Cn (u b (by rw[g];simp))];exact t _ _ g,GB,f.2 V λ_ _ _ h=>h⟩
theorem Ar.run{P:Program}{f:FuncId}{args:Array Value}{R:Ending->Mem->Prop}(h:Ar D V Q)(H:∀U,D.sub U->Tri P f args U λe t=>U.sub t/\R e t):
  Tri P f args V λe V'=>∃D',D.sub D'/\R e D'/\Ar D' V' Q:=by
 obtain⟨M,f,z,j⟩:=h;have u:D.sub (Mem.minus V M):=λb o w=>by
  rw[Cn (j b (by rw[w];simp))];exact z _ _ w
 refine Tri.mono (tri_frame f.1 (H _ u)) ?_;rintro e V2 ⟨q,⟨p,a⟩,v,J,G⟩;exact⟨q,u.trans p,a,M,f.keep λb o hm g=>J b o hm g,v,λb g hm=>g (G b hm)⟩
theorem Ar.grow(h:Ar D V Q)(g:V.sub V'):Ar D V' Q:=by
 obtain⟨M,f,t,u⟩:=h;exact⟨M,f.keep λb o _ w=>g _ _ w,t.trans g,u⟩
theorem Ar.pub(h:Ar D V Q){b:Nat}(t:V b=none)(o:Obj):Ar (D.set b o) (V.set b o) Q:=by
 obtain⟨M,f,u,z⟩:=h;have ne:∀c,V c≠none->c≠b:=λc g e=>g (by rw[e];exact t);refine⟨M,f.keep λc w hm g=>by grind[Mem.set_ne],λc w g=>?_,λc g=>?_⟩
 ·by_cases e:c=b;·grind[Mem.set_same]
  ·rw[Mem.set_ne e]at g⊢;exact u _ _ g
 ·by_cases e:c=b;·subst e;exact λhm=>f.1 c hm t
  grind[Mem.set_ne]
end
theorem oneG{α:Type}{t e sz:Nat}{row:α->List Value}(A:AppP t e sz row){V0 V:Mem}{b:Nat}{s:Sl}{xs:List α}{x:α}(o:Sx.Own V0 V e sz s (xs.flatMap row))(g:V b=none)(f:xs.length+1<=2147483648){ty:Nat}{y z:Operand}{vals:Operand->Value}(w:vals y=.slice s.p s.n s.c)(j:vals z=.slice (sa b) 1 1)(q:∀x,(row x).length=sz){Q:Value->Mem->Prop}(a:∀s' V',Sx.Own V0 V' e sz s' ((xs++[x]).flatMap row)->Q (.slice s'.p s'.n s'.c) V'):
  GenK xE (.call {callee:=.builtin .append,args:=#[y,z],argTypes:=#[t,t]}) ty vals (V.set b (.cells (row x).toArray e (0,0))) Q:=
 A (s:=s) (u:=⟨some ⟨b,0,none⟩,1,1⟩) (xs:=xs) (ys:=[x]) w j (o.new g _) (Ad.cells (xs:=[x]) (row:=row) As (by simp) q (by simp) (by simp)) (by simpa using f) a
theorem pushG{W V V1:Mem}{e sz:Nat}{s s':Sl}{xs ys:List Value}(o:Sx.Own W V e sz s xs)(h:Sx.Own (V.but s) V1 e sz s' ys):Sx.Own W V1 e sz s' ys/\(∀c,¬Ct s c->V c≠none->V1 c=V c)/\∀c,Ct s' c->Ct s c∨V c=none:=by
 refine⟨h.narrow o.sub_but,λc g f=>?_,λc g=>?_⟩
 ·cases e:V c with
  |none=>grind
  |some x=>exact h.sub _ _ (Mem.but_at e g)
 ·have u:=Own.none0 h g;by_cases t:Ct s c;·exact .inl t
  ·right;cases f:V c with
   |none=>rfl
   |some o=>grind[Mem.but_at]
theorem g138:IdxP 138 Am (xw .i64) 1:=by
 intro V l xs g first u v St H f G N
 refine x138 (a:=l) (b:=.func (.func g) first.toArray u.toArray) ?_;refine Av xs.length St G ?_;intro i b V1 J L p Z;have h:=f i V1 p;refine⟨λt=>?_,λz=>?_⟩
 ·obtain⟨x,hm,Y,R,P,j,A,w⟩:=h.get t;refine⟨j,A,t,_,w,g,_,_,rfl,v,Tri.mono (N i x V1 Y p) ?_⟩;rintro e V2 ⟨b,rfl,I,M⟩;exact⟨b,rfl,λq=>.inl ⟨i,rfl,I q⟩,λq=>⟨h.succ t,Z P _ _ (M (by simpa using q))⟩⟩
 ·have e:i=xs.length:=by have:=(h.done z).2;omega
  simp_all
theorem Oi:ConP 97 Am (xw .i64) 1:=conG g138 NU
theorem Oj:ConC 97 Am (xw .i64) 1:=conC Oi
def F9(b:Bool):List Value:=[.bool b]
theorem Hu(l:List Bool):l.flatMap F9=l.map vj:=by
 induction l with
 |nil=>rfl
 |cons a l g=>rw[yc,g];rfl
theorem flat_setB(l:List Bool)(i:Nat)(x:Bool):(l.flatMap F9).set i (.bool x)=(l.set i x).flatMap F9:=by rw[Hu,Hu,List.map_set]
theorem flat_lenB(l:List Bool):(l.flatMap F9).length=l.length:=by rw[Hu,wq]
theorem bool_at{V:Mem}{s:Sl}{xs:List Bool}(h:Ad V s 1 (xs.map F9)){i:Nat}{x:Bool}(g:xs[i]?=some x):¬s.p=none/\(0:Int)<=(i:Int)/\(i:Int)<(s.n:Int)/\V.rowp s.p (i*1) 1=some [.bool x]:=by
 have z:=h.n_eq;have j:=(yv.1 g).1;obtain⟨y,-,f,-,-,t,u,w⟩:=h.get (i:=i) (by omega);rw[g]at f;cases f;exact⟨t,u,by omega,w⟩
section
variable{V:Mem}
theorem madeB(n:Nat):(madeCells (vj false).cells n).toList=(yJ n false).map vj:=by
 have g:(vj false).cells=#[vj false]:=by rfl
 rw[g,List.map_replicate];unfold madeCells;refine List.ext_getElem? λj=>?_;grind
theorem own_madeB{g n:Nat}(f:V g=none)(t:n<=2147483648):Sx.Own V (V.set g (.cells (madeCells (vj false).cells (n*1)) 4 (0,0))) 4 1 ⟨some ⟨g,0,none⟩,n,n⟩ ((yJ n false).flatMap F9):=by
 have e:(madeCells (vj false).cells (n*1)).toList=(yJ n false).flatMap F9:=by rw[wy,madeB,Hu]
 refine⟨Mem.sub_new f _,by rw[Hu];simp,.inr ⟨g,_,rfl,f,Mem.set_same _ _ _,yV _,by simp only[maxLen];omega,by rw[size_madeCells],?_⟩⟩;grind[wH,Hu]
theorem mk170{ty:Nat}{x y:Operand}{vals:Operand->Value}{n:Nat}(f:vals x=.int .i64 n)(t:vals y=.int .i64 n)(u:n<=2147483648){q:Value->Mem->Prop}(w:∀g,V g=none->q (.slice (sa g) n n) (V.set g (.cells (madeCells (vj false).cells (n*1)) 4 (0,0)))):GenK xE (.makeSlice 170 x y) ty vals V q:=
 GenK.make (z:=.bool false) (i:=ti 4) Tryz.underlying170 (by kernel_rfl) (by kernel_rfl) (by kernel_rfl) (of_decide_eq_true (by kernel_rfl)) f t u w
theorem c160{s:Sl}{l:List Int}(h:Ad V s 1 (l.map Am)){x:Int}:PP 160 [s.v,.int .i64 x] V (.int .i64 (CY (λy=>decide (x=y)) l)):=by
 refine x160 ?_;refine Av (mk:=.int .i64) (b0:=0) l.length (λj V1=>V=V1/\AN (λy:Int=>!decide (x=y)) l j) ⟨rfl,AN.zero _ _⟩ ?_;rintro j b V1 J N ⟨rfl,w⟩ q;refine⟨λg=>?_,λt=>?_⟩
 ·obtain⟨y,p,a,-,u,H,G,f⟩:=h.get g;refine⟨H,G,g,_,f,λz=>?_,λz=>⟨h.succ g,q u _ _ ⟨rfl,He w a (decide_eq_false z)⟩⟩⟩;grind[Hc,decide_eq_true]
 ·rw[Hd w (h.done t).2];simp_all
end
end Go.Proofs
namespace Go.Proofs
open Go Go.Sx
def Ga(x:List Int×List (Int×List Int)):Mm:=⟨Ah,x.1,Ah,x.2.map λn=>⟨n.1,Ah,n.2⟩⟩
theorem K3(x:List Int×List (Int×List Int)):(Ga x).plain=x:=by
 unfold Mm.plain Ga;simp[Function.comp_def]
section
variable{d:Ds}{m x y:Mm}
theorem Ju:IsCan d m (Ga (Bx d m)) (AJ d m).order:=by
 refine⟨rfl,?_,λi n z g f=>⟨Ah,?_⟩⟩;·simp[Ga,Bx]
 simp_all[Ga,Bx,y4,zJ]
end
end Go.Proofs
namespace Go.Proofs
open Go Go.Sx
attribute [local irreducible] Go.Sx.Tri
def QL(e sz:Nat)(Q:Mem->Mem->Prop)(o:Sl)(vs:List Value):Mem->Mem->Prop:=λW V=>∃g,Sx.Own W g e sz o vs/\Q g V
def Bc(Q:Mem->Mem->Prop):Prop:=Framed Q/\∀W V,Q W V->W.sub V
section
variable{Q:Mem->Mem->Prop}{D V V' W:Mem}{o:Sl}{e sz:Nat}{vs:List Value}
theorem QL.over(h:Bc Q):Bc (QL e sz Q o vs):=by
 obtain⟨p,j⟩:=h;refine⟨λW V ⟨z,t,w⟩=>?_,λW V ⟨z,t,w⟩=>t.sub.trans (j _ _ w)⟩;obtain⟨M,J,q⟩:=p z V w;have a:=j _ _ w;have G:∀b,Ct o b->∃x,z b=some x/\V b=some x/\¬M b:=λb f=>by
  obtain⟨x,u⟩:=Own.some t f;exact⟨_,u,a _ _ u,λhm=>by simp_all⟩
 refine⟨λb=>M b∨Ct o b,λb f=>?_,λb f=>?_,λV' v=>?_⟩
 ·rcases f with f|f
  ·cases e:W b with
   |none=>rfl
   |some x=>
    have:=t.sub _ _ e;simp_all
  ·exact Own.none0 t f
 ·rcases f with f|f;·exact q.1 b f
  grind
 ·refine⟨Mem.minus V' M,EO t (λc x N=>?_) (λg x H Z u=>⟨Do (.inr H),?_⟩),q.2 V' λb x f u=>v b x (.inl f) u⟩;·grind[Do,Ct,inr,Cn]
  grind[Cn,inr]
theorem Ar.mk(h:Bc Q)(S:Q W V)(g:D.sub W):Ar D V Q:=Ar.new h.1 S (h.2 _ _ S) g
theorem QL.start(g:Bc Q)(h:Ar D V Q):Ar D V (QL e sz Q Ah []):=by
 obtain⟨W,f,u,t⟩:=h.use;exact Ar.mk (QL.over g) ⟨W,Own.nil (Mem.sub.refl _) _ _,t⟩ f
theorem QL.pub{α:Type}{row:α->List Value}{xs:List α}(f:Bc Q)(t:∀x,(row x).length=sz)(u:0<sz)(h:Ar D V (QL e sz Q o (xs.flatMap row))):∃D',D.sub D'/\Ad D' o sz (xs.map row)/\Ar D' V Q:=by
 obtain⟨W,w,q,z,g,j⟩:=h.use;exact⟨z,w.trans g.sub,g.rows t u,Ar.mk f j (Mem.sub.refl _)⟩
theorem pushW{α:Type}{t:Nat}{row:α->List Value}{xs:List α}{x:α}(A:AppP t e sz row)(Y:∀x,(row x).length=sz)(a:Bc Q)(h:QL e sz Q o (xs.flatMap row) W V){b:Nat}(v:V b=none)(P:xs.length+1<=2147483648){ty:Nat}{y z:Operand}{vals:Operand->Value}(H:vals y=.slice o.p o.n o.c)(I:vals z=.slice (sa b) 1 1){c:Array Value}(f:c=(row x).toArray){K:Value->Mem->Prop}(hK:∀u V',QL e sz Q u ((xs++[x]).flatMap row) W V'->K (.slice u.p u.n u.c) V'):
  GenK xE (.call {callee:=.builtin .append,args:=#[y,z],argTypes:=#[t,t]}) ty vals (V.set b (.cells c e (0,0))) K:=by
 subst f;obtain⟨L,J,G⟩:=h;have R:=a.2 _ _ G;have w:=Own.growS J R;refine oneG A w.but v P H I Y λu V' j=>hK u V' ?_;obtain⟨N,B,C⟩:=pushG w j;obtain⟨M,E,Z⟩:=a.1 L V G;have S:∀c,M c->V c≠none/\¬Ct o c:=λc f=>⟨Z.1 c f,λv=>by
  grind[Own.some]⟩
 have q:W.sub (Mem.minus V' M):=λc x f=>by
  have:¬M c:=λhm=>by
   have:=J.sub _ _ f;simp_all
  rw[Cn this];exact N.sub _ _ f
 exact⟨Mem.minus V' M,EO N q (λg x T X H=>⟨X,by
  grind[Cn]⟩),Z.2 V' λc x hm f=>by simp_all⟩
theorem ER{α:Type}{t:Nat}{row:α->List Value}{xs:List α}{x:α}(A:AppP t e sz row)(u:∀x,(row x).length=sz)(f:Bc Q)(h:Ar D V (QL e sz Q o (xs.flatMap row))){b:Nat}(w:V b=none)(j:xs.length+1<=2147483648){ty:Nat}{y z:Operand}{vals:Operand->Value}(a:vals y=.slice o.p o.n o.c)(v:vals z=.slice (sa b) 1 1){c:Array Value}(H:c=(row x).toArray){K:Value->Mem->Prop}(hK:∀g V',Ar D V' (QL e sz Q g ((xs++[x]).flatMap row))->K (.slice g.p g.n g.c) V'):
  GenK xE (.call {callee:=.builtin .append,args:=#[y,z],argTypes:=#[t,t]}) ty vals (V.set b (.cells c e (0,0))) K:=by
 obtain⟨W,J,-,q⟩:=h.use;exact pushW A u f q w j a v H λg V' G=>hK g V' (Ar.mk (QL.over f) G J)
end
section
variable{Q Q':Mem->Mem->Prop}{D V V' W:Mem}{o o2:Sl}{e sz e2 sz2:Nat}{vs vs2:List Value}
theorem QL.map(h:QL e sz Q o vs W V)(t:∀g,W.sub g->Q g V->Q' g V'):QL e sz Q' o vs W V':=by
 obtain⟨g,f,h⟩:=h;exact⟨g,f,t g f.sub h⟩
theorem QL.swap(h:QL e sz (QL e2 sz2 Q o2 vs2) o vs W V):QL e2 sz2 (QL e sz Q o vs) o2 vs2 W V:=by
 obtain⟨a,t,u,f,q⟩:=h;refine⟨Mem.minus u (Ct o),EO f (λc x p=>?_) (λg x w z j=>⟨free t.sub z,?_⟩),u,EO t GB (λg x w z j=>⟨Do w,f.sub _ _ j⟩),q⟩
 ·rw[Cn λv=>by grind[Own.none0]];exact f.sub _ _ (t.sub _ _ p)
 grind[Cn,Own.some]
theorem QL.own(g:Bc Q)(h:QL e sz Q o vs W V):Sx.Own W V e sz o vs:=by
 obtain⟨u,f,t⟩:=h;exact Own.growS f (g.2 _ _ t)
theorem QL.rows{α:Type}{row:α->List Value}{xs:List α}(g:Bc Q)(f:∀x,(row x).length=sz)(t:0<sz)(h:QL e sz Q o (xs.flatMap row) W V):Ad V o sz (xs.map row):=(h.own g).rows f t
theorem QL.store(z:Bc Q)(h:QL e sz Q o vs W V){i:Nat}(hi:i<vs.length){v:Value}{q:Mem->Prop}(a:∀V',QL e sz Q o (vs.set i v) W V'->(∀c,¬Ct o c->V' c=V c)->q V'):AQ (Aa o.p i) 0 [v] V q:=by
 obtain⟨H,j,f⟩:=h;have J:=z.2 _ _ f;obtain⟨M,Y,G⟩:=z.1 H V f;refine Own.store (Own.growS j J) hi λV' t N=>a V' ?_ N;have P:∀c,M c->¬Ct o c:=λc u A=>by
  grind[Own.some]
 have w:W.sub (Mem.minus V' M):=λc x u=>by
  have:¬M c:=λhm=>by
   have:=j.sub _ _ u;simp_all
  rw[Cn this];exact t.sub _ _ u
 exact⟨Mem.minus V' M,EO t w (λg x I Z L=>⟨Z,by grind[Cn]⟩),G.2 V' λc x hm u=>by simp_all⟩
end
def EmQ(W V:Mem):Prop:=W.sub V
theorem EmQ.over:Bc EmQ:=⟨λW V h=>⟨λ_=>False,λ_ h=>h.elim,λ_ h=>h.elim,λV' _ b o g=>GB b o g⟩,λ_ _ h=>h⟩
theorem c124{V:Mem}{s:Sl}{l:List Int}(h:Ad V s 1 (l.map Am)){x:Int}:PP 124 [s.v,.int .i64 x] V (.bool (decide (x∈l))):=by
 refine x124 ?_;refine(c160 h).call ⟨_,rfl,?_⟩;have e:decide (0<=CY (λy=>decide (x=y)) l)=decide (x∈l):=by
  rcases Dn (λy=>decide (x=y)) l with⟨g,-,f⟩|⟨i,y,g,f,-,t,u,-⟩;·grind
  grind
 simp_all
theorem app41:AppP 41 34 1 BL:=appG Tryz.underlying41 (by kernel_rfl) (by kernel_rfl) (by kernel_rfl) (by kernel_rfl) (by kernel_rfl) (by decide) (by intro _;rfl) (λx u g=>by simp only[BL,yD,xC,or_false]at g;subst g;rfl)
section
variable{V:Mem}{s:Sl}{b:List Int}
theorem Bt.sl(h:Bt V s b){lo hi:Nat}(g:lo<=hi)(f:hi<=b.length):Bt V ⟨if(s.c:Int)=(lo:Int)then s.p else Aa s.p ((lo:Int).toNat*1),((hi:Int)-(lo:Int)).toNat,((s.c:Int)-(lo:Int)).toNat⟩ ((b.drop lo).take (hi-lo)):=by
 have:=(h.post (j:=lo) (by omega)).pre (j:=hi-lo) (by rw[wY];omega);rw[show((hi:Int)-(lo:Int)).toNat=hi-lo by omega];exact this
theorem okPg_take{l:List (Int×List Int)}{i:Nat}(h:∀j x,j<i->l[j]?=some x->(0<=x.1/\x.1<1000)/\x.1∉(l.take j).map (·.1))(hi:l.length<=i):okPg l=true:=by
 unfold okPg;rw[zC,z6,decide_eq_true_eq];refine⟨λx t=>?_,?_⟩
 ·obtain⟨j,g⟩:=wb.1 t;exact decide_eq_true (h j x (by have:=(yv.1 g).1;omega) g).1
 ·rw[vi,vh];intro a c u f w e;rw[wq]at u f;refine(h c l[c] (by omega) (yu f)).2 ?_;rw[vg,vg]at e;rw[<-e];exact vo (vf.2 ⟨a,by omega,rfl⟩)
theorem okPg_not{l:List (Int×List Int)}{j:Nat}{x:Int×List Int}(g:l[j]?=some x)(h:¬(x.1<1000)∨x.1∈(l.take j).map (·.1)):okPg l=false:=by
 cases t:okPg l with
 |false=>rfl
 |true=>
  obtain⟨u,f⟩:=Ia t;rcases h with h|h;·exact absurd (u x (xQ g)).2 h
  ·obtain⟨y,w,e⟩:=wc.1 h;obtain⟨a,q,rfl⟩:=vf.1 w;obtain⟨z,rfl⟩:=yv.1 g;rw[vi,vh]at f;have:=f a j (by rw[wq];omega) (by rw[wq];exact z) (by omega);rw[vg,vg]at this;exact absurd e this
end
def ParseR(page at_:Nat)(b:List Int):Ending->Mem->Prop:=λe V'=>match BH page (b.drop at_)with
 |none=>∃(sp sd:Sl)(en:Int),e=.returned (.tuple #[.agg #[sp.v,sd.v,.int .i64 en],.bool false])
 |some x=>∃sp sd:Sl,e=.returned (.tuple #[.agg #[sp.v,sd.v,.int .i64 ((at_+x.2:Nat):Int)],.bool true])/\Pg V' sp sd x.1
def ParseQ(V:Mem)(page at_:Nat)(b:List Int):Ending->Mem->Prop:=λe V'=>V.sub V'/\ParseR page at_ b e V'
section
variable{V:Mem}{s:Sl}{b:List Int}
theorem Ol(h:Bt V s b)(hl:b.length<=1048576){at_ page:Nat}(ha:at_<=b.length)(hp1:8<=page)(hp2:page<=256):Tri xE 83 #[s.v,.int .i64 at_,.int .i64 page] V (ParseQ V page at_ b):=by
 obtain⟨R,hR⟩:∃R,R=ParseQ V page at_ b:=⟨_,rfl⟩;rw[<-hR];refine N0 ?_;have hn:=h.n;have hc:=h.rows.cap;have hf:=h.rows.fit;have N:=h.post ha;have hxl:(b.drop at_).length=b.length-at_:=wY;have g:BH page (b.drop at_)=none->∀{sp sd:Sl}{en:Int}{V':Mem},V.sub V'->R (.returned (.tuple #[.agg #[sp.v,sd.v,.int .i64 en],.bool false])) V':=λe sp sd en V' hs=>by
  rw[hR];exact⟨hs,by unfold ParseR;rw[e];exact⟨_,_,_,rfl⟩⟩
 generalize hx:b.drop at_=x at N hxl g;refine⟨⟨by omega,by omega,by omega⟩,λh8=>g ?_ (sp:=Ah) (sd:=Ah) (Mem.sub.refl _),λh8=>?_⟩;·unfold BH;simp only;rw[if_pos (by omega)]
 have I:=num4_in N.b;obtain⟨n,M⟩:∃n:Nat,Co x=n:=⟨_,(Int.toNat_of_nonneg I.1).symm⟩;refine(c122 N (by omega)).call ⟨_,rfl,?_⟩;rw[M];have hle:n*(4+page)<=4294967296*260:=Nat.mul_le_mul (by omega) (by omega);obtain⟨S,hS⟩:∃S:Nat,S=4+n*(4+page):=⟨_,rfl⟩;have e0:((n:Int)*(4+(page:Int)))=((n*(4+page):Nat):Int):=by push_cast;rfl
 have e1:(4+((n:Int)*(4+(page:Int))))=(S:Int):=by rw[hS];push_cast;rfl
 have f:BH page x=if x.length<8 then none else if 1000<n∨x.length<S+4∨sumF (x.take S)≠Co (x.drop S)then none else if okPg ((zB n).map (pgAt page x))=true then some ((zB n).map (pgAt page x),S+4)else none:=by
  unfold BH;simp only[M,vM,<-hS]
 rw[if_neg (by omega)]at f;simp only[e1];refine⟨⟨by omega,by omega⟩,by rw[e0];exact⟨by omega,by omega⟩,⟨by omega,by omega⟩,λhb=>g (by rw[f,if_pos (.inl (by omega))]) (sp:=Ah) (sd:=Ah) (Mem.sub.refl _),λhb=>⟨⟨by omega,by omega⟩,λhsh=>g (by rw[f,if_pos (.inr (.inl (by omega)))]) (sp:=Ah) (sd:=Ah) (Mem.sub.refl _),λhsh=>⟨⟨by omega,by omega,by omega⟩,⟨by omega,by omega,by omega⟩,?_⟩⟩⟩;refine(c123 (N.sl (lo:=0) (hi:=S) (by omega) (by omega))).call ⟨_,rfl,⟨by omega,by omega,by omega⟩,?_⟩;refine(c122 (N.post (j:=S) (by omega)) (by rw[wY];omega)).call ⟨_,rfl,?_⟩;have hn2:=num4_in (N.b.drop S);refine⟨⟨by simp[IntKind.min,zQ,zR];omega,by simp[IntKind.max,zQ,zR];omega⟩,λhe=>?_,λhe=>g (by rw[f,if_pos (.inr (.inr (by simpa using he)))]) (sp:=Ah) (sd:=Ah) (Mem.sub.refl _)⟩;have hS4:S+4<=x.length:=by omega
 have he':sumF (x.take S)=Co (x.drop S):=by simpa using he
 rw[if_neg (by rintro(h1|h1|h1)<;>first|omega|exact h1 he')]at f;obtain⟨L,hL⟩:∃L,L=(zB n).map (pgAt page x):=⟨_,rfl⟩;rw[<-hL]at f;have hLl:L.length=n:=by rw[hL,wq,vl]
 have hLg:∀i,i<n->L[i]?=some (pgAt page x i):=λi hi=>by rw[hL,y4,List.getElem?_range hi];rfl
 refine⟨λm xs V4=>∃(i:Nat)(X B:Sl)(ss:List Sl),m=n-i/\i<=n/\xs=[.slice X.p X.n X.c,.slice B.p B.n B.c,.int .i64 0,.bool false,.int .i64 i]/\
  QL 34 1 (QL 3 1 EmQ X (((L.take i).map (λy:Int×List Int=>y.1)).flatMap Am)) B (ss.flatMap BL) V V4/\ss.length=i/\(∀(j:Nat) u y,ss[j]?=some u->L[j]?=some y->Bt V u y.2)/\(∀(j:Nat) y,j<i->L[j]?=some y->(0<=y.1/\y.1<1000)/\y.1∉(L.take j).map (λy:Int×List Int=>y.1)),n,
  ⟨0,Ah,Ah,[],rfl,by omega,rfl,⟨V,Own.nil (Mem.sub.refl V) _ _,V,Own.nil (Mem.sub.refl V) _ _,Mem.sub.refl V⟩,rfl,λj u y G=>by simp at G,λj y hj=>by omega⟩,?_⟩
 rintro m V4 v6 v7 v8 v9 v10 ⟨i,X,B,ss,rfl,hi,C,hq,Y,E,K⟩ J hJ;simp only[yE,and_true]at C;obtain⟨q1,q2,q3,q4,q5⟩:=C;cases AG _ _ q1;cases AG _ _ q2;cases Ax _ _ q3;cases Ax _ _ q5;have q4:v9=false:=by simpa using q4
 subst q4;have w:=EmQ.over;have q:V.sub V4:=(QL.over (QL.over w)).2 _ _ hq;have h6:=QL.swap hq;have a:=QL.rows (row:=Am) (QL.over w) (λ_=>rfl) (by decide) h6;refine⟨λT=>?_,λU=>?_⟩
 ·have T:(i:Int)<(n:Int):=T;have hin:i<n:=by omega
  have hmul:(i+1)*(4+page)<=n*(4+page):=y5 _ hin;rw[Nat.succ_mul]at hmul;obtain⟨A,hA⟩:∃A:Nat,A=4+i*(4+page):=⟨_,rfl⟩;have e2':((i:Int)*(4+(page:Int)))=((i*(4+page):Nat):Int):=by push_cast;rfl
  have e2:(4+((i:Int)*(4+(page:Int))))=(A:Int):=by rw[hA];push_cast;rfl
  have e3:((A:Int)+4)=((A+4:Nat):Int):=by push_cast;rfl
  have e4:(((A+4:Nat):Int)+(page:Int))=((A+4+page:Nat):Int):=by push_cast;rfl
  simp only[e2,e3,e4];have P:=hLg i hin;have Z:(pgAt page x i).1=Co (x.drop A):=by rw[hA];rfl
  have hy2:(pgAt page x i).2=(x.drop (A+4)).take page:=by rw[hA];rfl
  have hnA:=num4_in (N.b.drop A);refine⟨⟨by omega,by omega⟩,by rw[e2'];exact⟨by omega,by omega⟩,⟨by omega,by omega⟩,⟨by omega,by omega,by omega⟩,?_⟩;refine(c122 ((N.sub q).post (j:=A) (by omega)) (by rw[wY];omega)).call ⟨_,rfl,λhbig=>g ?_ q,λhbig=>?_⟩
  ·rw[f,if_neg];rw[okPg_not P (.inl (by rw[Z];omega))];simp
  refine(c124 a).call ⟨_,rfl,λH=>g ?_ q,λH=>λtb htb=>?_⟩
  ·rw[f,if_neg];rw[okPg_not P (.inr (by rw[Z];exact of_decide_eq_true H))];simp
  have H:¬Co (x.drop A)∈(L.take i).map (λy:Int×List Int=>y.1):=λhm=>H (decide_eq_true hm);refine pushW DU (row:=Am) (x:=Co (x.drop A)) (λ_=>rfl) (QL.over w) h6 htb (by rw[wq,wX];omega) rfl rfl rfl λs6' V5 h5=>⟨s6',rfl,⟨by omega,by omega⟩,⟨by omega,by omega⟩,⟨by omega,by omega⟩,⟨by omega,by omega,by omega⟩,λtb2 htb2=>?_⟩;have hsl:=N.sl (lo:=A+4) (hi:=A+4+page) (by omega) (by omega);obtain⟨u0,hu0,hub⟩:∃u0:Sl,u0=_/\Bt V u0 ((x.drop (A+4)).take (A+4+page-(A+4))):=⟨_,rfl,hsl⟩;have et:(L.take (i+1)).map (λy:Int×List Int=>y.1)=(L.take i).map (λy:Int×List Int=>y.1)++[Co (x.drop A)]:=by
   rw[wh,P,yP];simp[Z]
  refine pushW app41 (row:=BL) (x:=u0) (λ_=>rfl) (QL.over w) (QL.swap h5) htb2 (by omega) rfl rfl (by rw[hu0];rfl) λs7' V6 h7=>⟨s7',rfl,⟨by omega,by omega⟩,hJ _ _ _ (show n-(i+1)<n-i by omega) ⟨i+1,s6',s7',ss++[u0],rfl,by omega,rfl,by rw[et];exact h7,by rw[zw,Y];rfl,λj u y G t=>?_,λj y hj t=>?_⟩⟩
  ·by_cases hji:j<i
   ·rw[vt (by omega)]at G;exact E j u y G t
   ·rw[vq (by omega)]at G;have:j=i:=by
     have:=(yv.1 G).1;simp at this;omega
    subst this;rw[Y,Nat.sub_self]at G;cases G;rw[P]at t;cases t;rw[hy2];rwa [Nat.add_sub_cancel_left]at hub
  ·by_cases hji:j<i;·exact K j y hji t
   ·obtain rfl:j=i:=by omega
    rw[P]at t;cases t;rw[Z];exact⟨⟨hnA.1,by omega⟩,H⟩
 ·have U:¬(i:Int)<(n:Int):=U;obtain rfl:i=n:=by omega
  have hok':okPg L=true:=okPg_take K (by omega);rw[if_pos hok']at f;refine⟨⟨by omega,by omega⟩,⟨by omega,by omega⟩,?_⟩;rw[hR];refine⟨q,?_⟩;unfold ParseR;rw[hx,f];refine⟨v6,v7,by push_cast;rfl,?_,ss,QL.rows (row:=BL) (QL.over w) (λ_=>rfl) (by decide) hq,by rw[wq,Y,hLl],λj u z G hz=>?_⟩
  ·have:=a;rwa [wH (by omega)]at this
  ·rw[y4,Option.map_eq_some_iff]at hz;obtain⟨y,P,rfl⟩:=hz;exact(E j u y G P).sub q
end
structure RecS where
 sp:Sl
 sd:Sl
 en:Int
 l:List (Int×List Int)
def RecS.row(r:RecS):List Value:=[r.sp.v,r.sd.v,.int .i64 r.en]
structure Recs (V:Mem)(s:Sl)(rs:List RecS):Prop where
 rows:Ad V s 3 (rs.map RecS.row)
 pg:∀r∈rs,Pg V r.sp r.sd r.l
theorem app109:AppP 109 138 3 RecS.row:=appG Tryz.underlying109 (by kernel_rfl) (by kernel_rfl) (by kernel_rfl) (by kernel_rfl) (by kernel_rfl) (by decide) (by intro _;rfl) (λx u g=>by simp only[RecS.row,Sl.v,yD,xC,or_false]at g;rcases g with rfl|rfl|rfl<;>rfl)
section
variable{V:Mem}{s:Sl}{b:List Int}
theorem If(h:Bt V s b)(L:b.length<=1048576){page:Nat}(Z:8<=page)(Y:page<=256){syn aft:Int}:Tri xE 57 #[.agg #[.int .i64 page,s.v,.int .i64 syn,.int .i64 aft]] V λe V'=>V.sub V'/\∃(o:Sl)(rs:List RecS),e=.returned (.tuple #[o.v,.int .i64 ((Ao page b).2:Nat)])/\Recs V' o rs/\rs.map (λr=>r.l)=(Ao page b).1:=by
 obtain⟨R,I⟩:∃R:Ending->Mem->Prop,R=λe V'=>V.sub V'/\∃(o:Sl)(rs:List RecS),e=.returned (.tuple #[o.v,.int .i64 ((Ao page b).2:Nat)])/\Recs V' o rs/\rs.map (λr=>r.l)=(Ao page b).1:=⟨_,rfl⟩;rw[<-I];refine Nw ?_;refine⟨λm xs V1=>∃(at_:Nat)(o:Sl)(rs:List RecS)(D:Mem),m=b.length-at_/\at_<=b.length/\xs=[.slice none 0 0,.int .i64 0,.slice o.p o.n o.c,.int .i64 at_]/\V.sub D/\Ar D V1 (QL 138 3 EmQ o (rs.flatMap RecS.row))/\(∀r∈rs,Pg D r.sp r.sd r.l)/\rs.length<=at_/\Ao page b=(rs.map (λr=>r.l)++(Ao page (b.drop at_)).1,at_+(Ao page (b.drop at_)).2),b.length,
  ⟨0,Ah,[],V,rfl,by omega,rfl,Mem.sub.refl V,QL.start EmQ.over (Ar.mk EmQ.over (W:=V) (Mem.sub.refl V) (Mem.sub.refl V)),λr f=>by simp at f,by simp,by simp⟩,?_⟩
 rintro m V1 X v5 B v7 ⟨at_,o,rs,D,rfl,C,w,j,E,q,K,g⟩ J S;simp only[yE,and_true]at w;obtain⟨T,q2,q3,q4⟩:=w;cases AG X Ah T;cases Ax _ _ q2;cases AG _ _ q3;cases Ax _ _ q4;refine Tri.mono (E.run (R:=ParseR page at_ b) λU hU=>Tri.mono (Ol (h.sub (j.trans hU)) L C Z Y) λ_ _ h=>h) ?_;rintro e V2 ⟨D2,u,a,t⟩;have H:=j.trans u;unfold ParseR at a;cases G:BH page (b.drop at_)with
 |none=>
  rw[G]at a;obtain⟨sp,sd,en,rfl⟩:=a;refine⟨sp,sd,en,false,rfl,λP=>by simp at P,λ_=>?_⟩;rw[KV G,xp,Nat.add_zero]at g;rw[I,g];obtain⟨W,hW,-,hq⟩:=t.use;exact⟨H.trans t.sub,B,rs,rfl,⟨QL.rows (row:=RecS.row) EmQ.over (λ_=>rfl) (by decide) hq,λr f=>((q r f).sub u).sub t.sub⟩,rfl⟩
 |some z=>
  obtain⟨l,z⟩:=z;rw[G]at a;obtain⟨sp,sd,rfl,N⟩:=a;have hz:=F7 G;rw[wY]at hz;refine⟨sp,sd,_,true,rfl,λ_ tb A=>?_,λP=>absurd rfl P⟩;refine ER app109 (row:=RecS.row) (x:=⟨sp,sd,((at_+z:Nat):Int),l⟩) (λ_=>rfl) EmQ.over t A (by omega) rfl rfl rfl λM V3 h3=>⟨M,rfl,S _ _ _ (show b.length-(at_+z)<b.length-at_ by omega) ⟨at_+z,M,rs++[⟨sp,sd,((at_+z:Nat):Int),l⟩],D2,rfl,by omega,rfl,H,h3,λr f=>?_,by rw[zw];simp;omega,?_⟩⟩
  ·rcases wZ.1 f with f|f;·exact(q r f).sub u
   ·rw[zO.1 f];exact N
  ·rw[g,Fy page (b.drop at_),G];simp only[List.drop_drop,yP,zG,ve,zH,zI,vX,Nat.add_assoc]
theorem FA{k:Dk}(h:Bt V s k.data)(I:k.data.length<=2147483648):PP 30 [.agg #[.int .i64 k.page,s.v,.int .i64 k.syn,.int .i64 k.aft]] V (.bool (AY k)):=by
 obtain⟨R,t⟩:∃R:Ending->Mem->Prop,R=λe V'=>e=.returned (.bool (AY k))/\V.sub V':=⟨_,rfl⟩;refine AP.mk ?_;rw[<-t];refine Nn ?_;have M:=h.n;have g:(¬(8<=k.page/\k.page<=256/\k.data.length<=1048576/\-1<=k.aft/\k.aft<=1048576/\0<=k.syn))->R (.returned (.bool false)) V:=λu=>by
  rw[t];refine⟨?_,Mem.sub.refl V⟩;unfold AY;rw[decide_eq_false];rintro⟨z,j,q,p,a,H,-⟩;exact u ⟨z,j,q,p,a,H⟩
 refine⟨λJ=>g (by omega),λJ=>⟨λG=>g (by omega),λG=>⟨λN=>g (by omega),λN=>⟨λZ=>g (by omega),λZ=>⟨λY=>g (by omega),λY=>⟨λP=>g (by omega),λP=>?_⟩⟩⟩⟩⟩⟩;obtain⟨pg,f⟩:∃pg:Nat,k.page=pg:=⟨k.page.toNat,by omega⟩;rw[f];refine Tri.mono (If h (by omega) (page:=pg) (by omega) (by omega)) ?_;rintro _ V1 ⟨A,o,rs,rfl,-,-⟩;refine⟨o,_,rfl,?_⟩;rw[t];refine⟨?_,A⟩;unfold AY;rw[f,vM];congr 2;rw[decide_eq_decide];constructor;·intro w;exact⟨by omega,by omega,by omega,by omega,by omega,by omega,w⟩
 ·rintro⟨-,-,-,-,-,-,w⟩;exact w
end
theorem K4(n:Nat):(madeCells (xw .u8 0).cells (n*1)).toList=(yJ n (0:Int)).flatMap AS:=by
 have e:(yJ n (0:Int)).flatMap AS=yJ n (xw .u8 0):=by
  induction n with
  |zero=>rfl
  |succ n g=>rw[List.replicate_succ,yc,g];rfl
 rw[e];rw[wy];refine List.ext_getElem (by simp[size_madeCells]) λi f t=>?_;simp[madeCells,Value.cells,Nat.mod_one]
theorem mk34{V:Mem}{ty:Nat}{x y:Operand}{vals:Operand->Value}{n:Nat}(f:vals x=.int .i64 n)(t:vals y=.int .i64 n)(u:n<=2147483648){q:Value->Mem->Prop}(w:∀g,V g=none->q (.slice (sa g) n n) (V.set g (.cells (madeCells (xw .u8 0).cells (n*1)) 5 (0,0)))):GenK xE (.makeSlice 34 x y) ty vals V q:=
 GenK.make (z:=.int .u8 0) (i:=ti 5) Tryz.underlying34 (by kernel_rfl) (by kernel_rfl) (by kernel_rfl) (of_decide_eq_true (by kernel_rfl)) f t u w
theorem made_bt{V:Mem}{g n:Nat}(h:V g=some (.cells (madeCells (xw .u8 0).cells (n*1)) 5 (0,0)))(t:n<=2147483648):Bt V ⟨some ⟨g,0,none⟩,n,n⟩ (yJ n 0):=
 ⟨Ad.cells (xs:=yJ n (0:Int)) (row:=AS) h (K4 n) (λ_=>rfl) (by simp) (by simp;omega),λx f=>by rw[(vm.1 f).2];decide⟩
def Bn(D V:Mem)(o:Sl)(xs:List (List Int)):Prop:=∃ss:List Sl,Ar D V (QL 34 1 EmQ o (ss.flatMap BL))/\ss.length=xs.length/\∀(i:Nat) u x,ss[i]?=some u->xs[i]?=some x->Bt D u x
section
variable{D V:Mem}{o:Sl}{xs:List (List Int)}
theorem Bn.sub(h:Bn D V o xs):D.sub V:=by obtain⟨ss,g,-⟩:=h;exact g.sub
theorem Bn.ls(h:Bn D V o xs):Ls V o xs:=by
 obtain⟨ss,g,f,t⟩:=h;obtain⟨W,z,-,w⟩:=g.use;exact⟨ss,QL.rows (row:=BL) EmQ.over (λ_=>rfl) (by decide) w,f,λi u x a b=>(t i u x a b).sub g.sub⟩
theorem Bn.start(V:Mem):Bn V V Ah []:=⟨[],QL.start EmQ.over (Ar.mk EmQ.over (W:=V) (Mem.sub.refl V) (Mem.sub.refl V)),rfl,λi u x g=>by simp at g⟩
theorem Bn.push(h:Bn D V o xs){u:Sl}{x:List Int}(j:Bt D u x){b:Nat}(q:V b=none)(A:xs.length+1<=2147483648){ty:Nat}{y z:Operand}{vals:Operand->Value}(a:vals y=.slice o.p o.n o.c)(H:vals z=.slice (sa b) 1 1){c:Array Value}(J:c=#[u.v]){K:Value->Mem->Prop}
  (hK:∀g V',Bn D V' g (xs++[x])->K (.slice g.p g.n g.c) V'):GenK xE (.call {callee:=.builtin .append,args:=#[y,z],argTypes:=#[41,41]}) ty vals (V.set b (.cells c 34 (0,0))) K:=by
 obtain⟨ss,G,N,Z⟩:=h;refine ER app41 (row:=BL) (x:=u) (λ_=>rfl) EmQ.over G q (by omega) a H (by rw[J];rfl) λg V' Y=>hK g V' ⟨ss++[u],Y,by rw[zw,zw,N];rfl,λi v w f hw=>?_⟩;by_cases P:i<ss.length
 ·rw[vt P]at f;rw[vt (by omega)]at hw;exact Z i v w f hw
 ·have t:=(yv.1 f).1;rw[zw]at t;simp only[zy,uC]at t;rw[vq (by omega)]at f hw;rw[show i-ss.length=0 by omega]at f;rw[show i-xs.length=0 by omega]at hw;cases f;cases hw;exact j
theorem Bn.store(h:Bn D V o xs){i:Nat}(hi:i<xs.length){u:Sl}{x:List Int}(P:Bt D u x){q:Mem->Prop}(Z:∀V',Bn D V' o (xs.set i x)->q V'):AQ (Aa o.p i) 0 [u.v] V q:=by
 obtain⟨ss,z,H,J⟩:=h;obtain⟨W,A,-,G⟩:=z.use;have g:(ss.flatMap BL).length=ss.length:=by
  clear z H J G;induction ss with
  |nil=>rfl
  |cons a ss N=>rw[yc,zw,N];simp[BL];omega
 refine QL.store EmQ.over G (i:=i) (by omega) λV' Y _=>Z V' ⟨ss.set i u,Ar.mk (QL.over EmQ.over) (W:=W) ?_ A,by rw[vp,vp,H],λj v w t hw=>?_⟩
 ·have e:(ss.set i u).flatMap BL=(ss.flatMap BL).set i u.v:=by
   clear z H J G g Y hi Z;induction ss generalizing i with
   |nil=>rfl
   |cons a ss N=>
    cases i with
    |zero=>rfl
    |succ i=>rw[List.set_cons_succ,yc,yc,N];rfl
  rw[e];exact Y
 ·by_cases f:j=i
  ·subst f;rw[vw (by omega)]at t hw;cases t;cases hw;exact P
  ·rw[vu (Ne.symm f)]at t hw;exact J j v w t hw
theorem Bn.pub(h:Bn D V o xs){b:Nat}(g:V b=none)(x:Obj):Bn (D.set b x) (V.set b x) o xs/\D.sub (D.set b x):=by
 obtain⟨ss,f,w,z⟩:=h;have t:=Mem.sub_new (free f.sub g) x;exact⟨⟨ss,f.pub g x,w,λi u y j q=>(z i u y j q).sub t⟩,t⟩
end
end Go.Proofs
namespace Go.Proofs
open Go Go.Sx
theorem Mw{n:Nat}(u:0<n):∀(f g:Nat)(b:List Int),b.length<=f->b.length<=g->F8 n f b=F8 n g b
 |0,0,_,_,_=>rfl
 |0,_+1,b,h,_=>by
  have:b=[]:=ya (by omega);subst this;simp[F8]
 |_+1,0,b,_,h=>by
  have:b=[]:=ya (by omega);subst this;simp[F8]
 |f+1,g+1,b,w,z=>by
  unfold F8;by_cases t:b=[];·rw[if_pos t,if_pos t]
  have:0<b.length:=uE.2 t;rw[if_neg t,if_neg t,Mw u f g _ (by rw[wY];omega) (by rw[wY];omega)]
theorem K5(n:Nat):AK n []=[]:=rfl
theorem GJ{n:Nat}(t:0<n){b:List Int}(g:b≠[]):AK n b=b.take n::AK n (b.drop n):=by
 have w:0<b.length:=uE.2 g;obtain⟨f,u⟩:∃f,b.length=f+1:=⟨b.length-1,by omega⟩;unfold AK;rw[u,F8,if_neg g,Mw t f (b.drop n).length _ (by rw[wY];omega) (yV _)]
theorem Ig{n:Nat}(u:0<n){Q:List Int->Prop}(f:Q [])(t:∀b,b≠[]->Q (b.drop n)->Q b):∀(m:Nat)(b:List Int),b.length<=m->Q b
 |m,b,h=>by
  by_cases g:b=[];·rw[g];exact f
  have:0<b.length:=uE.2 g;cases m with
  |zero=>omega
  |succ m=>exact t b g (Ig u f t m _ (by rw[wY];omega))
theorem Mx{n:Nat}(g:0<n)(b:List Int):(AK n b).flatten=b:=by
 refine Ig g (Q:=λb=>(AK n b).flatten=b) rfl (λb f t=>?_) _ b (yV _);rw[GJ g f,uF,t,vz]
theorem Hv{n:Nat}(f:0<n)(b:List Int):∀c∈AK n b,c≠[]/\c.length<=n:=by
 refine Ig f (Q:=λb=>∀c∈AK n b,c≠[]/\c.length<=n) (by simp[K5]) (λb t u=>?_) _ b (yV _);rw[GJ f t];intro c g;rcases yD.1 g with rfl|g
 ·refine⟨λe=>t ?_,by rw[wX];omega⟩;have:(b.take n).length=0:=by rw[e];rfl
  rw[wX]at this;exact ya (by omega)
 ·exact u c g
theorem ceil_sub{n l:Nat}(g:0<n)(f:0<l):(l+n-1)/n=(l-n+n-1)/n+1:=by
 have e:l+n-1=(l-1)+n:=by omega
 rw[e,uG _ g];by_cases h:n<=l;·rw[show l-n+n-1=l-1 by omega]
 ·rw[show l-n+n-1=n-1 by omega,uH (by omega),uH (by omega)]
theorem ES{n:Nat}(g:0<n)(b:List Int):(AK n b).length=(b.length+n-1)/n:=by
 refine Ig g (Q:=λb=>(AK n b).length=(b.length+n-1)/n) ?_ (λb f t=>?_) _ b (yV _)
 ·show 0=(0+n-1)/n;rw[Nat.zero_add,uH (by omega)]
 ·rw[GJ g f,zy,t,wY,<-ceil_sub g (uE.2 f)]
def A8(C:List (List Int))(c:List Int):List (List Int):=if c∈C then C else C++[c]
def Aw(n:Nat)(codes:List (List Int)):List (List Int):=codes.foldl (λC b=>(AK n b).foldl A8 C) []
theorem addC_sub(C:List (List Int))(c:List Int):∃D,A8 C c=C++D:=by
 unfold A8;split;·exact⟨[],by simp⟩
 ·exact⟨[c],rfl⟩
theorem addC_mem(C:List (List Int))(c:List Int):c∈A8 C c:=by
 unfold A8;split;·assumption
 ·simp
theorem K6:∀(l C:List (List Int)),∃D,l.foldl A8 C=C++D
 |[],C=>⟨[],by simp⟩
 |c::l,C=>by
  obtain⟨D,g⟩:=addC_sub C c;obtain⟨E,f⟩:=K6 l (A8 C c);exact⟨D++E,by rw[wm,f,g,zH]⟩
theorem fold_mem:∀(l C:List (List Int)),∀c∈l,c∈l.foldl A8 C
 |c::l,C,x,g=>by
  rw[wm];rcases yD.1 g with rfl|g
  ·obtain⟨E,f⟩:=K6 l (A8 C x);rw[f];exact we _ (addC_mem C x)
  ·exact fold_mem l _ x g
theorem fold_from:∀(l C:List (List Int)),∀x∈l.foldl A8 C,x∈C∨x∈l
 |[],_,_,h=>.inl h
 |c::l,C,x,h=>by
  rw[wm]at h;rcases fold_from l _ x h with h|h
  ·unfold A8 at h;split at h;·exact .inl h
   ·rcases wZ.1 h with h|h;·exact .inl h
    ·exact .inr (by rw[zO.1 h];exact zb)
  ·exact .inr (za _ h)
theorem fold_nd:∀(l C:List (List Int)),C.Nodup->(l.foldl A8 C).Nodup
 |[],_,h=>h
 |c::l,C,h=>by
  rw[wm];refine fold_nd l _ ?_;unfold A8;split;·exact h
  ·rename_i g;rw[uJ];exact⟨h,by simp,λa f b t=>by rw[zO.1 t];rintro rfl;exact g f⟩
theorem Hw(n:Nat)(codes:List (List Int))(b:List Int):Aw n (codes++[b])=(AK n b).foldl A8 (Aw n codes):=by
 simp[Aw,vH]
theorem K7(n:Nat)(codes more:List (List Int)):∃D,Aw n (codes++more)=Aw n codes++D:=by
 induction more generalizing codes with
 |nil=>exact⟨[],by simp⟩
 |cons b more g=>
  obtain⟨D,f⟩:=g (codes++[b]);obtain⟨E,t⟩:=K6 (AK n b) (Aw n codes);exact⟨E++D,by rw[<-zH,<-t,<-Hw,<-f];simp⟩
theorem Jv{n:Nat}{codes:List (List Int)}{b c:List Int}(g:b∈codes)(f:c∈AK n b):c∈Aw n codes:=by
 obtain⟨l,r,rfl⟩:=List.append_of_mem g;obtain⟨D,t⟩:=K7 n (l++[b]) r;rw[show l++b::r=l++[b]++r by simp,t,Hw];exact we _ (fold_mem _ _ c f)
theorem Jw{n:Nat}(codes:List (List Int)):∀c∈Aw n codes,∃b∈codes,c∈AK n b:=by
 suffices h:∀(codes:List (List Int))(C:List (List Int)),∀c∈codes.foldl (λC b=>(AK n b).foldl A8 C) C,c∈C∨∃b∈codes,c∈AK n b by
  intro c g;rcases h codes [] c g with h|h;·cases h
  ·exact h
 intro codes;induction codes with
 |nil=>exact λC c h=>.inl h
 |cons b codes f=>
  intro C c h;rw[wm]at h;rcases f _ c h with h|⟨b',t,u⟩
  ·rcases fold_from _ _ c h with h|h;·exact .inl h
   ·exact .inr ⟨b,zb,h⟩
  ·exact .inr ⟨b',za _ t,u⟩
theorem dist_nd(n:Nat)(codes:List (List Int)):(Aw n codes).Nodup:=by
 suffices h:∀(codes:List (List Int))(C:List (List Int)),C.Nodup->(codes.foldl (λC b=>(AK n b).foldl A8 C) C).Nodup from h codes [] List.nodup_nil
 intro codes;induction codes with
 |nil=>exact λC h=>h
 |cons b codes g=>exact λC h=>g _ (fold_nd _ _ h)
def DW(C:List (List Int))(c:List Int):Int:=C.idxOf c
theorem ixC_get{C:List (List Int)}{c:List Int}(h:c∈C):C[(DW C c).toNat]?=some c:=by
 unfold DW;rw[vM,yu (uK h),List.getElem_idxOf]
theorem ixC_lt{C:List (List Int)}{c:List Int}(h:c∈C):0<=DW C c/\DW C c<C.length:=by
 have:=uK h;unfold DW;omega
theorem ixC_app{C:List (List Int)}{c:List Int}(h:c∈C)(D:List (List Int)):DW (C++D) c=DW C c:=by
 unfold DW;rw[uN,if_pos h]
def CZ(n:Nat)(C:List (List Int))(b:List Int):Int×List Int:=(b.length,(AK n b).map (DW C))
def AZ(n:Nat)(codes:List (List Int)):Dir:=⟨(Aw n codes).map λc=>(c.length:Int),codes.map (CZ n (Aw n codes))⟩
theorem verC_app{n:Nat}{C:List (List Int)}{b:List Int}(h:∀c∈AK n b,c∈C)(D:List (List Int)):CZ n (C++D) b=CZ n C b:=by
 unfold CZ;rw[vk λc g=>ixC_app (h c g) D]
end Go.Proofs
namespace Go.Proofs
open Go Go.Sx
def Bz(n:Nat)(c:List Int):List Int:=c++yJ (n-c.length) 0
def strK(k:Dk):List Int:=((Bh k).take 100).flatten
def Au(k:Dk):Dir×Int:=
 if AY k=false then(⟨[],[]⟩,1)
 else if Bh k=[]then(⟨[],[]⟩,0)
 else if k.page<32 then(⟨[],[]⟩,7)
 else match EP k.page.toNat (strK k)with
  |none=>(⟨[],[]⟩,7)
  |some x=>(x,0)
def Cg(k:Dk)(x:Dir)(i:Int):Option (List Int):=
 match x.sizes[i.toNat]?,(Bh k)[(100+i).toNat]? with
 |some s,some b=>if(b.length:Int)<s then none else some (b.take s.toNat)
 |_,_=>none
structure SvS where
 sizes:List Int
 all:List (Int×List Int)
 kn:List Int->Option Int
 tot:Int
 acc:List (Int×List Int)
def Dg(n:Nat)(s:SvS)(c:List Int):SvS×Int:=
 match s.kn c with
 |some i=>(s,i)
 |none=>({s with sizes:=s.sizes++[(c.length:Int)],kn:=λx=>if x=c then some (s.sizes.length:Int)else s.kn x,acc:=s.acc++[(100+(s.sizes.length:Int),Bz n c)]},s.sizes.length)
def B2(n:Nat):SvS->List (List Int)->SvS×List Int
 |s,[]=>(s,[])
 |s,c::l=>let a:=Dg n s c;let b:=B2 n a.1 l;(b.1,a.2::b.2)
def Ew(n:Nat)(s:SvS)(b:List Int):Option SvS:=
 if 12000<s.tot+b.length∨s.all.length=30 then none
 else let a:=B2 n {s with tot:=s.tot+b.length} (AK n b);some {a.1 with all:=a.1.all++[((b.length:Int),a.2)]}
def C5(n:Nat):SvS->List (List Int)->Option SvS
 |s,[]=>some s
 |s,b::l=>match Ew n s b with
  |none=>none
  |some a=>C5 n a l
def CS(n:Nat)(x:Dir):List (Int×List Int):=(AK n (BE x)).zipIdx.map λp=>((p.2:Int),Bz n p.1)
def DX(C:List (List Int))(c:List Int):Option Int:=if c∈C then some (DW C c)else none
def accC(n:Nat)(C D:List (List Int)):List (Int×List Int):=(D.zipIdx C.length).map λp=>(100+(p.2:Int),Bz n p.1)
theorem knC_new{C:List (List Int)}{c:List Int}(h:c∉C)(x:List Int):(if x=c then some (C.length:Int)else DX C x)=DX (C++[c]) x:=by
 unfold DX DW;by_cases e:x=c
 ·subst e;rw[if_pos rfl,if_pos (by simp),uN,if_neg h];simp
 ·rw[if_neg e];by_cases g:x∈C;·rw[if_pos g,if_pos (we _ g),uN,if_pos g]
  ·rw[if_neg g,if_neg (by simp[g,e])]
theorem K8(n:Nat):∀(l C:List (List Int))(s:SvS),s.sizes=C.map (λc=>(c.length:Int))->s.kn=DX C->∃D,l.foldl A8 C=C++D/\B2 n s l=(⟨(C++D).map (λc=>(c.length:Int)),s.all,DX (C++D),s.tot,s.acc++accC n C D⟩,l.map (DW (C++D)))
 |[],C,s,t,f=>⟨[],by simp,by
  obtain⟨a,b,c,d,e⟩:=s;simp only at t f;subst t f;simp[B2,accC]⟩
 |c::l,C,s,t,f=>by
  by_cases g:c∈C
  ·have u:Dg n s c=(s,DW C c):=by
    unfold Dg;rw[f,DX,if_pos g]
   obtain⟨D,w,e⟩:=K8 n l C s t f;refine⟨D,by rw[wm,A8,if_pos g,w],?_⟩;rw[B2,u];simp only[e,zG,ixC_app g]
  ·have u:Dg n s c=({s with sizes:=(C++[c]).map λc=>(c.length:Int),kn:=DX (C++[c]),acc:=s.acc++[(100+(C.length:Int),Bz n c)]},(C.length:Int)):=by
    unfold Dg;rw[f,DX,if_neg g];simp only[t,wq,yP,zG,ve];congr 2;funext x;exact knC_new g x
   obtain⟨D,w,e⟩:=K8 n l (C++[c]) {s with sizes:=(C++[c]).map λc=>(c.length:Int),kn:=DX (C++[c]),acc:=s.acc++[(100+(C.length:Int),Bz n c)]} rfl rfl;refine⟨c::D,by rw[wm,A8,if_neg g,w];simp,?_⟩;have z:DW (C++c::D) c=C.length:=by
    unfold DW;rw[uN,if_neg g];simp
   rw[B2,u];simp only[e,zH,zI,vX,zG,z,accC,zw,zy,uC,uO]
structure Ih (n:Nat)(s:SvS)(C0:List (List Int))(codes:List (List Int)):Prop where
 sizes:s.sizes=(Aw n codes).map λc=>(c.length:Int)
 all:s.all=codes.map (CZ n (Aw n codes))
 kn:s.kn=DX (Aw n codes)
 tot:s.tot=(codes.map uQ).sum
 acc:∃D,Aw n codes=C0++D/\s.acc=accC n C0 D
theorem acc_app(n:Nat)(C D E:List (List Int)):accC n C (D++E)=accC n C D++accC n (C++D) E:=by
 unfold accC;rw[List.zipIdx_append,yP,zw]
theorem svCode_eq{n:Nat}{s:SvS}{C0 codes:List (List Int)}{b:List Int}(h:Ih n s C0 codes)(w:((codes++[b]).map uQ).sum<=12000)(a:codes.length<30):∃s',Ew n s b=some s'/\Ih n s' C0 (codes++[b]):=by
 have t:=h.tot;rw[yP,uR,zG,ve,uT,List.sum_nil]at w;have z:¬(12000<s.tot+b.length∨s.all.length=30):=by
  rw[h.all,wq,t];omega
 obtain⟨D,g,e⟩:=K8 n (AK n b) (Aw n codes) {s with tot:=s.tot+b.length} h.sizes h.kn;rw[<-Hw]at g;have f:codes.map (CZ n (Aw n codes))=codes.map (CZ n (Aw n (codes++[b]))):=by
  refine vk λy j=>?_;rw[g,verC_app λc q=>Jv j q]
 obtain⟨E,u,p⟩:=h.acc;refine⟨_,by rw[Ew,if_neg z,e],⟨?_,?_,?_,?_,E++D,?_,?_⟩⟩;·rw[g]
 ·simp only[h.all,f,yP,zG,ve];rw[<-g];rfl
 ·rw[g]
 ·simp only[t,yP,uR,zG,ve,uT,List.sum_nil];omega
 ·rw[g,u,zH]
 ·simp only[p];rw[acc_app,<-u]
theorem svAll_eq{n:Nat}{C0:List (List Int)}:∀(l:List (List Int)){s:SvS}{codes:List (List Int)},Ih n s C0 codes->((codes++l).map uQ).sum<=12000->(codes++l).length<=30->∃s',C5 n s l=some s'/\Ih n s' C0 (codes++l)
 |[],s,codes,h,_,_=>⟨s,rfl,by simpa using h⟩
 |b::l,s,codes,h,g,f=>by
  have t:codes++b::l=(codes++[b])++l:=by simp
  rw[t]at g f⊢;obtain⟨a,u,w⟩:=svCode_eq (b:=b) h (by rw[yP,uR]at g;omega) (by simp at f;omega);obtain⟨s',e,z⟩:=svAll_eq l w g f;exact⟨s',by rw[C5,u];exact e,z⟩
end Go.Proofs
namespace Go.Proofs
open Go Go.Sx
def Ca:Dk:=⟨0,[],0,0⟩
def CC(k:Dk)(l:List (Int×List Int)):Dk×Int:=
 if AY k=false then(Ca,1)
 else if ∃x∈l,(x.2.length:Int)≠k.page then(Ca,3)
 else if 1000<l.length then(Ca,4)
 else if ∃x∈l,x.1<0∨1000<=x.1 then(Ca,2)
 else if ¬(l.map (·.1)).Nodup then(Ca,10)
 else if k.aft≠0/\1048576<(Ao k.page.toNat k.data).2+(AF l).length then(Ca,4)
 else CJ k (AF l)
def knOf(C:List (List Int)):List Int->Option Int:=C.zipIdx.foldl (λf p x=>if x=p.1 then some (p.2:Int)else f x) (λ_=>none)
def DH(k:Dk)(l:List (List Int)):Dk×Int×Int:=
 if k.page<32 then(Ca,0,30)
 else if(Au k).2≠0 then(Ca,0,(Au k).2)
 else match(zB (Au k).1.sizes.length).mapM (λi:Nat=>Cg k (Au k).1 i)with
  |none=>(Ca,0,7)
  |some C=>
   match C5 k.page.toNat ⟨(Au k).1.sizes,(Au k).1.all,knOf C,((Au k).1.all.map (·.1)).sum,[]⟩ l with
   |none=>(Ca,0,4)
   |some s=>
    if l=[]then(k,(Au k).1.all.length,0)
    else let c:=CC k (s.acc++CS k.page.toNat ⟨s.sizes,s.all⟩);if c.2=0 then(c.1,(Au k).1.all.length,0)else(c.1,0,c.2)
theorem knOf_nd{C:List (List Int)}(h:C.Nodup):knOf C=DX C:=by
 suffices w:∀(D C:List (List Int)),(C++D).Nodup->(D.zipIdx C.length).foldl (λf p x=>if x=p.1 then some (p.2:Int)else f x) (DX C)=DX (C++D)by
  have:=w C [] (by simpa using h);simp only[uC,vX]at this;rw[<-this];unfold knOf;congr 1
 intro D;induction D with
 |nil=>intro C _;simp
 |cons c D z=>
  intro C u;have g:c∉C:=λg=>(uJ.1 u).2.2 c g c zb rfl;have t:((C++[c])++D).Nodup:=by simpa using u
  have e:=z (C++[c]) t;rw[uO,wm];have j:(λx=>if x=c then some (C.length:Int)else DX C x)=DX (C++[c]):=funext λx=>knC_new g x;simp only[j];rw[zw]at e;rw[show C++c::D=C++[c]++D by simp];exact e
theorem fold_n:∀(l C:List (List Int)),(l.foldl A8 C).length<=C.length+l.length
 |[],_=>by simp
 |c::l,C=>by
  rw[wm];refine Nat.le_trans (fold_n l _) ?_;unfold A8;split;·rw[zy];omega
  ·rw[zw,zy,zy,uC];omega
theorem ceil_le{n l:Nat}(g:32<=n):32*((l+n-1)/n)<=l+31:=by
 have u:(l+n-1)/n<=(l+31)/32:=by
  rw[Nat.le_div_iff_mul_le (by omega)];by_cases f:l=0
  ·subst f;rw[show 0+n-1=n-1 by omega,uH (by omega)];omega
  have w:n*((l+n-1)/n)<=l+n-1:=uU _ _;have t:(l+n-1)/n=(l-1)/n+1:=by
   rw[show l+n-1=(l-1)+n by omega,uG _ (by omega)]
  have z:n*((l-1)/n)<=l-1:=uU _ _;have j:32*((l-1)/n)<=n*((l-1)/n):=y5 _ g;rw[t];omega
 omega
theorem dist_n{n:Nat}(g:32<=n)(codes:List (List Int)):32*(Aw n codes).length<=(codes.map uQ).sum+31*codes.length:=by
 suffices h:∀(codes:List (List Int))(C:List (List Int)),32*(codes.foldl (λC b=>(AK n b).foldl A8 C) C).length<=32*C.length+(codes.map uQ).sum+31*codes.length by
  have:=h codes [];simpa [Aw]using this
 intro codes;induction codes with
 |nil=>intro C;simp
 |cons b codes f=>
  intro C;have t:=f ((AK n b).foldl A8 C);have u:=fold_n (AK n b) C;have w:=ES (n:=n) (by omega) b;have z:=ceil_le (l:=b.length) g;rw[wm,zG,uT,zy];omega
theorem flat2(l:List Int):(l.flatMap BD).length=2*l.length:=by
 induction l with
 |nil=>rfl
 |cons a l g=>rw[yc,zw,g,zy];simp[BD];omega
theorem dir_n{n:Nat}(g:32<=n){codes:List (List Int)}(u:(codes.map uQ).sum<=12000)(w:codes.length<=30):(BE (AZ n codes)).length<=1700:=by
 have z:=dist_n g codes;have f:∀(C:List (List Int))(l:List (List Int)),32*((l.map (CZ n C)).flatMap CR).length<=2*(l.map uQ).sum+126*l.length:=by
  intro C l;induction l with
  |nil=>simp
  |cons b l j=>
   have q:=ES (n:=n) (by omega) b;have p:=ceil_le (l:=b.length) g;rw[zG,yc,zw,zG,uT,zy];have:(CR (CZ n C b)).length=2+2*(AK n b).length:=by
    rw[CR,zw,flat2,CZ,wq];rfl
   omega
 have:=f (Aw n codes) codes;unfold BE AZ;simp only[zw,flat2,wq];have t:∀x:Int,(BD x).length=2:=λ_=>rfl;simp only[t,zy,uC];omega
theorem pad_flat{n:Nat}(g:0<n)(b:List Int):∃r,((AK n b).map (Bz n)).flatten=b++r:=by
 refine Ig g (Q:=λb=>∃r,((AK n b).map (Bz n)).flatten=b++r) ⟨[],rfl⟩ (λb f t=>?_) _ b (yV _);obtain⟨r,u⟩:=t;rw[GJ g f,zG,uF,u];by_cases h:n<=b.length
 ·refine⟨r,?_⟩;rw[Bz,wX,show n-min n b.length=0 by omega,List.replicate_zero,xp,<-zH,vz]
 ·refine⟨yJ (n-b.length) 0++r,?_⟩;rw[Bz,wH (by omega),List.drop_eq_nil_of_le (by omega)];simp
end Go.Proofs
namespace Go.Proofs
open Go Go.Sx
structure AX (k:Dk)(codes:List (List Int)):Prop where
 ok:AY k=true
 page:32<=k.page
 opn:Au k=(AZ k.page.toNat codes,0)
 at_:∀i c,(Aw k.page.toNat codes)[i]?=some c->(Bh k)[100+i]?=some (Bz k.page.toNat c)
theorem mapM_nat{β:Type}{f:Nat->Option β}:∀(l:List Nat)(r:List β),l.length=r.length->(∀(i x:Nat)(y:β),l[i]?=some x->r[i]?=some y->f x=some y)->l.mapM f=some r
 |[],[],_,_=>rfl
 |[],_::_,h,_=>by cases h
 |_::_,[],h,_=>by cases h
 |x::l,y::r,h,H=>by
  rw[List.mapM_cons,H 0 x y rfl rfl,mapM_nat l r (by simpa using h) λi a b g t=>H (i+1) a b (by simpa using g) (by simpa using t)];rfl
theorem BF{k:Dk}(h:AY k=true):8<=k.page/\k.page<=256/\k.data.length<=1048576/\-1<=k.aft/\k.aft<=1048576/\0<=k.syn/\k.syn<=(Ao k.page.toNat k.data).2:=by
 unfold AY at h;exact of_decide_eq_true h
theorem pad_take{n:Nat}{c:List Int}:(Bz n c).take c.length=c:=by
 rw[Bz,List.take_left]
theorem Jx{n:Nat}{c:List Int}(h:c.length<=n):(Bz n c).length=n:=by
 rw[Bz,zw,vx];omega
section
variable{k:Dk}{codes:List (List Int)}(h:AX k codes)
include h
theorem AX.n32:32<=k.page.toNat:=by have:=h.page;omega
theorem AX.chunk{i:Nat}{c:List Int}(hi:(Aw k.page.toNat codes)[i]?=some c):Cg k (AZ k.page.toNat codes) i=some c:=by
 have hm:=xQ hi;obtain⟨b,-,g⟩:=Jw codes c hm;have f:=(Hv (n:=k.page.toNat) (by have:=h.n32;omega) b c g).2;have t:(AZ k.page.toNat codes).sizes[i]?=some (c.length:Int):=by simp[AZ,hi]
 have e2:=h.at_ i c hi;unfold Cg;rw[vM,t,show(100+(i:Int)).toNat=100+i by omega,e2];simp only;rw[Jx f,if_neg (by omega),vM,pad_take]
theorem AX.stored:(zB (AZ k.page.toNat codes).sizes.length).mapM (λi:Nat=>Cg k (AZ k.page.toNat codes) i)=some (Aw k.page.toNat codes):=by
 refine mapM_nat _ _ (by simp[AZ]) λi x y g f=>?_;obtain⟨t,e⟩:=yv.1 g;rw[List.getElem_range]at e;subst e;exact h.chunk f
theorem AX.same{g:Dk}(w:AY g=true)(f:g.page=k.page)(z:(Ao g.page.toNat g.data).1=(Ao k.page.toNat k.data).1):AX g codes:=by
 have t:Bh g=Bh k:=by unfold Bh;rw[z,f]
 have e2:strK g=strK k:=by unfold strK;rw[t]
 have u:=h.opn;refine⟨w,by rw[f];exact h.page,?_,?_⟩
 ·rw[f];unfold Au at u⊢;rw[h.ok]at u;rw[w,t,e2,f];exact u
 ·rw[f,t];exact h.at_
end
theorem svC_start(n:Nat)(codes:List (List Int)):Ih n ⟨(AZ n codes).sizes,(AZ n codes).all,knOf (Aw n codes),((AZ n codes).all.map (·.1)).sum,[]⟩ (Aw n codes) codes:=by
 refine⟨rfl,rfl,knOf_nd (dist_nd _ _),?_,[],by simp,by simp[accC]⟩;have:∀(C:List (List Int))(l:List (List Int)),((l.map (CZ n C)).map (·.1)).sum=((l.map uQ).sum:Int):=by
  intro C l;induction l with
  |nil=>rfl
  |cons b l g=>
   simp only[zG,uT]at g⊢;rw[g];simp[CZ]
 exact this _ _
theorem Jy{n:Nat}{C D:List (List Int)}{x:Int×List Int}(h:x∈accC n C D):∃(j:Nat)(c:List Int),D[j]?=some c/\x=(100+((C.length+j:Nat):Int),Bz n c):=by
 unfold accC at h;obtain⟨⟨c,j⟩,g,rfl⟩:=wc.1 h;obtain⟨t,f⟩:=uV.1 g;exact⟨j-C.length,c,f,by simp only;rw[show C.length+(j-C.length)=j by omega]⟩
theorem acc_at{n:Nat}{C D:List (List Int)}{j:Nat}{c:List Int}(h:D[j]?=some c):(100+((C.length+j:Nat):Int),Bz n c)∈accC n C D:=by
 unfold accC;refine wc.2 ⟨(c,C.length+j),uV.2 ⟨by omega,by rw[show C.length+j-C.length=j by omega];exact h⟩,rfl⟩
theorem Jz{n:Nat}{x:Dir}{p:Int×List Int}(h:p∈CS n x):∃(j:Nat)(c:List Int),(AK n (BE x))[j]?=some c/\p=((j:Int),Bz n c):=by
 unfold CS at h;obtain⟨⟨c,j⟩,g,rfl⟩:=wc.1 h;exact⟨j,c,uW.1 g,rfl⟩
theorem dirPg_at{n:Nat}{x:Dir}{j:Nat}{c:List Int}(h:(AK n (BE x))[j]?=some c):((j:Int),Bz n c)∈CS n x:=by
 unfold CS;exact wc.2 ⟨(c,j),uW.2 h,rfl⟩
theorem zip_nd(f:Nat->Int)(t:∀i j,f i=f j->i=j){g:List Int->List Int}:∀(l:List (List Int))(m:Nat),(((l.zipIdx m).map λp=>(f p.2,g p.1)).map (·.1)).Nodup
 |[],_=>by simp
 |a::l,m=>by
  rw[uO,zG,zG,yU];refine⟨λhm=>?_,zip_nd f t l (m+1)⟩;obtain⟨p,u,e⟩:=wc.1 hm;obtain⟨q,w,rfl⟩:=wc.1 u;obtain⟨z,-⟩:=uV.1 (show(q.1,q.2)∈l.zipIdx (m+1)from w);have:=t _ _ e;omega
end Go.Proofs
namespace Go.Proofs
open Go Go.Sx
theorem ceil_n{n l:Nat}(_:0<n):n*((l+n-1)/n)<=l+n-1:=uU _ _
def BM(n:Nat)(codes l:List (List Int)):List (Int×List Int):=accC n (Aw n codes) ((Aw n (codes++l)).drop (Aw n codes).length)++CS n (AZ n (codes++l))
section
variable{k:Dk}{codes l:List (List Int)}
theorem AX.save(h:AX k codes)(t:l≠[])(u:((codes++l).map uQ).sum<=12000)(w:(codes++l).length<=30):DH k l=if(CC k (BM k.page.toNat codes l)).2=0 then((CC k (BM k.page.toNat codes l)).1,(codes.length:Int),0)else((CC k (BM k.page.toNat codes l)).1,0,(CC k (BM k.page.toNat codes l)).2):=by
 obtain⟨s,e,f⟩:=svAll_eq l (svC_start k.page.toNat codes) u w;have z:=h.page;obtain⟨D,j,q⟩:=f.acc;have g:s.acc++CS k.page.toNat ⟨s.sizes,s.all⟩=BM k.page.toNat codes l:=by
  unfold BM;rw[q,j,uX,f.sizes,f.all];rfl
 unfold DH;rw[if_neg (by omega),h.opn];simp only;rw[if_neg (by simp),h.stored];simp only;rw[e];simp only;rw[if_neg t,g];simp[AZ]
end
structure PgsOk (n:Nat)(l:List (Int×List Int)):Prop where
 ok:okPg l=true
 len:l.length<=1000
 page:∀x∈l,x.2.length=n
theorem svPg_ok{n:Nat}(p:32<=n){codes l:List (List Int)}(N:((codes++l).map uQ).sum<=12000)(Z:(codes++l).length<=30):PgsOk n (BM n codes l)/\(CS n (AZ n (codes++l))).length<=100/\8*(AF (BM n codes l)).length<=64+9*((l.map uQ).sum+n*l.length+1700+n):=by
 have hd:=dir_n p N Z;have Y:=dist_n p (codes++l);obtain⟨D,v⟩:=K7 n codes l;have f:(Aw n (codes++l)).drop (Aw n codes).length=D:=by rw[v,uX]
 have hm:(CS n (AZ n (codes++l))).length=((BE (AZ n (codes++l))).length+n-1)/n:=by
  rw[CS,wq,uY,ES (by omega)]
 have P:=ceil_le (l:=(BE (AZ n (codes++l))).length) p;have A:=ceil_n (n:=n) (l:=(BE (AZ n (codes++l))).length) (by omega);have H:(Aw n (codes++l)).length=(Aw n codes).length+D.length:=by rw[v,zw]
 have J:(accC n (Aw n codes) D).length=D.length:=by rw[accC,wq,uY]
 have I:n*D.length<=(l.map uQ).sum+n*l.length:=by
  have M:∀(l:List (List Int))(C:List (List Int)),n*(l.foldl (λC b=>(AK n b).foldl A8 C) C).length<=n*C.length+(l.map uQ).sum+n*l.length:=by
   intro l;induction l with
   |nil=>intro C;simp
   |cons b l L=>
    intro C;have e1:=L ((AK n b).foldl A8 C);have e2:=Nat.mul_le_mul_left n (fold_n (AK n b) C);have R:=ES (n:=n) (by omega) b;have e4:=ceil_n (n:=n) (l:=b.length) (by omega);rw[uZ,R]at e2;rw[wm,zG,uT,zy,uZ,wy];omega
  have:=M l (Aw n codes);have e:Aw n (codes++l)=l.foldl (λC b=>(AK n b).foldl A8 C) (Aw n codes):=by simp[Aw,vH]
  rw[<-e,H,uZ]at this;omega
 have u:∀x∈BM n codes l,x.2.length=n:=by
  intro x t;unfold BM at t;rw[f]at t;rcases wZ.1 t with t|t
  ·obtain⟨j,c,w,rfl⟩:=Jy t;have X:c∈Aw n (codes++l):=by rw[v];exact List.mem_append_right _ (xQ w)
   obtain⟨b,-,G⟩:=Jw _ c X;exact Jx (Hv (by omega) b c G).2
  ·obtain⟨j,c,w,rfl⟩:=Jz t;exact Jx (Hv (by omega) _ c (xQ w)).2
 have z:(BM n codes l).length=D.length+(CS n (AZ n (codes++l))).length:=by
  unfold BM;rw[f,zw,J]
 refine⟨⟨?_,by omega,u⟩,by omega,?_⟩
 ·unfold okPg;rw[zC];constructor
  ·rw[z6];intro x t;rw[decide_eq_true_eq];unfold BM at t;rw[f]at t;rcases wZ.1 t with t|t
   ·obtain⟨j,c,w,rfl⟩:=Jy t;have:=(yv.1 w).1;simp only;omega
   ·obtain⟨j,c,w,rfl⟩:=Jz t;have:=(yv.1 w).1;rw[ES (by omega)]at this;simp only;omega
  ·rw[decide_eq_true_eq];unfold BM;rw[f,yP,uJ];refine⟨zip_nd (λi=>100+(i:Int)) (λi j e=>by omega) (g:=Bz n) D _,?_,?_⟩
   ·have:=zip_nd (λi=>(i:Int)) (λi j e=>by omega) (g:=Bz n) (AK n (BE (AZ n (codes++l)))) 0;exact this
   ·intro a B b G e;obtain⟨x,t,rfl⟩:=wc.1 B;obtain⟨y,E,rfl⟩:=wc.1 G;obtain⟨j,c,w,rfl⟩:=Jy t;obtain⟨i,c',K,rfl⟩:=Jz E;have:=(yv.1 K).1;rw[ES (by omega)]at this;simp only at e;omega
 ·rw[Js u,z];have S:n*(D.length+(CS n (AZ n (codes++l))).length)<=(l.map uQ).sum+n*l.length+(1700+n):=by
   rw[uZ,hm];omega
  have T:32*(D.length+(CS n (AZ n (codes++l))).length)<=n*(D.length+(CS n (AZ n (codes++l))).length):=y5 _ p;generalize D.length+(CS n (AZ n (codes++l))).length=q at S T⊢;have U:q*(4+n)=q*4+n*q:=by rw[uZ,Nat.mul_comm q n]
  rw[U];omega
end Go.Proofs
