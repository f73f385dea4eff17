/- Part 11: no statement of the seat is proved here. -/
import Derived.Test.YtgdmkmfchcflpaaGreatDoorPe10
set_option linter.unusedVariables false
set_option linter.unusedSimpArgs false
open Go.Builtin renaming append_->y7
open Nat renaming mul_one->wy,not_lt_zero->wa,mod_eq_of_lt->vR,succ_mul->vW,mul_le_mul_right->y5
open Go.Sem renaming run_bind->zK,run_pure->zM
open List renaming length_append->zw,size_toArray->zu,length_take->wX,length_drop->wY,append_assoc->zH,drop_left'->wx,take_left'->wv,drop_zero->wu,mem_cons_self->zb,findIdx?_cons->ym,mem_cons_of_mem->za,getElem?_eq_some_iff->yv,length_map->wq,foldl_cons->wm,ext_getElem->wk,getElem?_map->y4,getElem?_eq_getElem->yu,getElem_mem->yo,flatMap_cons->yc,mem_cons->yD,getElem?_zip_eq_some->wi,take_add_one->wh,map_append->yP,take_of_length_le->wH,length_zip->wg,range->zB,mem_append_left->we,filter_cons->z8,mem_range->yY,mem_map->wc,mem_iff_getElem?->wb,mem_of_getElem?->xQ,mem_append->wZ,mem_singleton->zO,length_singleton->w9,any_eq_false->vA,zip_nil_left->vB,zip_cons_cons->xg,ext_getElem?->zx,getElem?_eq_none_iff->vC,findIdx?_append->vD,findIdx?_eq_none_iff->vF,append_nil->xp,foldl_append->vH,drop_eq_nil_of_le->vN,length_cons->zy,nil_append->vX,drop_drop->vY,drop_append_of_le_length->vZ,take_append_drop->vz,take_append_of_le_length->vy
open Array renaming length_toList->xu
open Go.Value renaming string->xN,int->xw
open Go.Instr renaming sameBits->xv
open UInt8 renaming ofNat->wo
open ByteArray renaming empty->zA
open Option renaming map_some->zJ
open Option.some renaming injEq->zF
open Go.Conv renaming bytesToString->wj
open Go.Proofs.Tryz renaming prog->xE,underlying3->vJ,underlying223->vK
open Bool renaming not_eq_true'->zU,and_eq_true->zC,not_eq_true->vG
open Int renaming toNat_of_nonneg->vL,toNat_natCast->vM,eq_ofNat_of_zero_le->zo,fdiv_eq_ediv_of_nonneg->vV
open List.cons renaming injEq->yE
open Go.IntKind renaming i64->yr,min->vT,signed->zQ,bits->zR,max->vU,wrap->xF
open BitVec renaming ofInt->vO,ofInt_natCast->vP,toNat_ofNat->vQ
namespace Go.Sx
open Go
section
variable{P:Program}
theorem Od(w:World)(t ty e:TypeId)(i:TypeInfo)(Z:P.underlying t=some (.slice e))(hi:P.info? e=some i)
  (g off k r:Nat) (cur:Array Value) (Y:w.heap[g]?=some (.cells cur e (0,0)))
  (a:Addr) (m c:Nat) (news:List Value) (Q:news.length=m*i.size) (q:∀j u,news[j]?=some u->w.cell? (a.add j)=some u) (A:∀u∈news,u.oneCell'=true)
  (H:k+m<=r) (J:off+k*i.size+news.length<=cur.size):
  (y7 #[t,t] ty #[.slice (some ⟨g,off,none⟩) k r,.slice (some a) m c]).run P w=
   .ok (.slice (some ⟨g,off,none⟩) (k+m) r) (w.setRow g (cur.toList.take (off+k*i.size)++news++cur.toList.drop (off+k*i.size+news.length)).toArray):=by
 have I:=run_firstCells_some (P:=P) w i.size m a m c news Q q;have G:=run_storeCells_at P g (off+k*i.size) e news 0 cur w Y (by simpa using J) A;simp only[Nat.add_zero]at G;have N:(⟨g,off,none⟩:Addr).add (k*i.size)=⟨g,off+k*i.size,none⟩:=by simp[Addr.add]
 simp[y7,run_underlying Z,sizeOf,typeInfo,hi,Builtin.lenOf,H,I,N,G]
structure Cp (V0 V:Mem)(e:TypeId)(s:Sl)(vs:List Value):Prop where
 sub:V0.sub V
 len:vs.length=s.n
 at_:(s.n=0/\s.c=0/\vs=[])∨∃g off cur,s.p=some ⟨g,off,none⟩/\V0 g=none/\V g=some (.cells cur e (0,0))/\s.n<=s.c/\s.c<=maxLen/\off+s.c<=cur.size/\(cur.toList.drop off).take s.n=vs
theorem Own.toA{V0 V:Mem}{e:TypeId}{s:Sl}{vs:List Value}(h:Own V0 V e 1 s vs):Cp V0 V e s vs:=by
 refine⟨h.sub,by have:=h.len;omega,?_⟩;rcases h.at_ with k|⟨g,cur,k,w,r,q,H,G,J⟩;·exact .inl k
 ·exact .inr ⟨g,0,cur,k,w,r,q,H,by omega,by simpa using J⟩
theorem GenK.appendA{V0 V:Mem}{t e ty:TypeId}{i:TypeInfo}{z:Value}(C:P.underlying t=some (.slice e))(hi:P.info? e=some i)(hz:i.zero=some z)(k:i.size=1)(A:z.cells.size=1)(I:i.bytes<=65536)
  {x y:Operand} {vals:Operand->Value} {s:Sl} {a:Addr} {m c:Nat} {vs news:List Value} (hx:vals x=.slice s.p s.n s.c) (hy:vals y=.slice (some a) m c) (own:Cp V0 V e s vs) (N:V.row a m=some news)
  (h1:∀u∈news,u.oneCell'=true) (Z:s.n+m<=2147483648) {q:Value->Mem->Prop}
  (hq:∀s' V',Cp V0 V' e s' (vs++news)->q (.slice s'.p s'.n s'.c) V'):
  GenK P (.call {callee:=.builtin .append,args:=#[x,y],argTypes:=#[t,t]}) ty vals V q:=by
 rcases own.at_ with D|⟨g,off,cur,hp,hg,E,hnc,K,hcs,H⟩;·exact GenK.append (V0:=V0) C hi hz k A (by decide) I hx hy ⟨own.sub,by rw[own.len,wy],.inl D⟩ (by rw[wy];exact N) h1 Z λs' V' S _=>hq s' V' S.toA
 intro w hw;obtain⟨X,hc⟩:=row_le hw N;have G:(s.n+m)*i.bytes<=140737488355328:=Nat.le_trans (Nat.mul_le_mul Z I) (by decide);have M:∀(s':Sl)(V':Mem)(w':World),(y7 #[t,t] ty #[.slice s.p s.n s.c,.slice (some a) m c]).run P w=.ok (.slice s'.p s'.n s'.c) w'->Aq V w V' w'->Cp V0 V' e s' (vs++news)->
   ∃v w' V',(execOp vals {dst:=none,op:=.call {callee:=.builtin .append,args:=#[x,y],argTypes:=#[t,t]},type:=ty,pos:= "",after:=#[],guard:=none}).run P w=.ok (.value v) w'/\Aq V w V' w'/\q v V':=by
  intro s' V' w' Q T S;refine⟨_,w',V',?_,T,hq s' V' S⟩;unfold execOp;simp only[resolve,invoke,builtin,zK,zM,Result.andThen_ok,List.map_toArray,List.map_cons,List.map_nil,hx,hy,Q]
 have L:w.heap[g]?=some (.cells cur e (0,0)):=hw _ _ E;have Y:=own.len;have r:(vs++news).length=s.n+m:=by rw[zw,Y,X]
 by_cases J:s.n+m<=s.c
 ·have Q:=Od (P:=P) w t ty e i C hi g off s.n s.c cur L a m c news (by rw[k,X,wy]) hc h1 J (by rw[k];omega);rw[k,wy]at Q;refine M ⟨some ⟨g,off,none⟩,s.n+m,s.c⟩ _ _ (by rw[hp];exact Q) (Aq.row hw E) ⟨own.sub.set hg _,r,.inr ⟨g,off,_,rfl,hg,Mem.set_same _ _ _,J,K,?_,?_⟩⟩
  ·simp only[zu,zw,wX,wY,xu];omega
  ·simp only;have e1:cur.toList.take (off+s.n)=cur.toList.take off++vs:=by
    rw[List.take_add,H]
   have e2:(cur.toList.take off).length=off:=by rw[wX,xu];omega
   rw[e1,zH,zH,wx e2,<-zH,wv r]
 ·have R:V.row ⟨g,off,none⟩ s.n=some vs:=by
   unfold Mem.row;simp only[E];rw[if_pos ⟨rfl,by omega⟩,H]
  have holds:=(row_le hw R).2;obtain⟨U,T⟩:=Aq.new hw (.cells (vs.toArray++news.toArray++Builtin.zeroCells z.cells (grownCap w (s.n+m) s.c e-(s.n+m))) e);have hge:=grownCap_ge w (s.n+m) s.c e;have Q:=run_append_grow (P:=P) w t ty e i z C hi hz ⟨g,off,none⟩ s.n s.c vs (by rw[k,Y,wy]) holds a m c news (by rw[k,X,wy]) hc (by omega) (by omega) (growslice_fits (by omega) G);refine M ⟨some ⟨w.heap.size,0,none⟩,s.n+m,grownCap w (s.n+m) s.c e⟩ _ _ (by rw[hp];exact Q) T ⟨Mem.sub.new own.sub U _,r,.inr ⟨w.heap.size,0,_,rfl,?_,Mem.set_same _ _ _,hge,grownCap_le_maxLen w _ s.c e (by simp only[maxLen];omega),?_,?_⟩⟩
  ·cases D:V0 w.heap.size with
   |none=>rfl
   |some x=>rw[own.sub _ _ D]at U;cases U
  ·simp only[Array.size_append,zu,size_zeroCells,A,Y,X];omega
  ·simp only[wu,Array.toList_append];rw[wv (by simpa using r)]
end
open Classical
section
variable{P:Program}
theorem keyStr{kt:TypeId}(r:P.underlying kt=some .string):KeyOf P kt xN where
 inj:=λa b h=>by cases h;rfl
 find:=λa es w h=>by
  rw[IV r a es h];have e:(λe:MapEntry=>decide (AE e.key=a))=λe=>decide (AE e.key=a):=rfl;have:∀l:List MapEntry,(∀e∈l,∃b,e.key=xN b)->l.findIdx? (λe=>decide (AE e.key=a))=l.findIdx? λe=>decide (e.key=xN a):=by
   intro l;induction l with
   |nil=>intro _;rfl
   |cons x l H=>
    intro q;obtain⟨b,k⟩:=q x zb;rw[ym,ym,H λe J=>q e (za _ J),k];have:decide (AE (xN b)=a)=decide (xN b=xN a):=by
     by_cases e:b=a;·subst e;simp[AE]
     ·rw[decide_eq_false (show ¬AE (xN b)=a from e),decide_eq_false (λh=>e (by cases h;rfl))]
    rw[this]
  rw[this es h]
 check:=λb a w=>IW r b a w
 stays:=λa w=>by
  have k:(a==a)=true:=(MapKept.bytes_beq _ _).2 rfl;have h:xv 10000 (xN a) (xN a)=true:=by
   rw[show(10000:Nat)=9999+1 from rfl];simp[xv,k]
  unfold Instr.keyThatStays;rw[if_pos h];rfl
end
theorem Ad.post{α:Type}{V:Mem}{l:Sl}{sz:Nat}{row:α->List Value}{xs:List α}(h:Ad V l sz (xs.map row)){j:Nat}(H:j<=xs.length):
  Ad V ⟨if(l.c:Int)=(j:Int)then l.p else Aa l.p ((j:Int).toNat*sz),((l.n:Int)-(j:Int)).toNat,((l.c:Int)-(j:Int)).toNat⟩ sz ((xs.drop j).map row):=by
 have J:=h.n_eq;have G:=h.cap;have N:=h.fit;refine⟨?_,?_,?_,λr Z=>h.size r ?_,λi r k=>?_⟩;·simp_all
 ·grind
 ·grind
 ·grind
 ·rw[List.map_drop,List.getElem?_drop]at k;obtain⟨a,Y,q⟩:=h.at_ _ _ k;have w:j+i<(xs.map row).length:=(yv.1 k).1;rw[wq]at w;refine⟨a.add (j*sz),?_,?_⟩;·grind[Aa]
  grind[IZ,Nat.add_mul]
end Go.Sx
namespace Go.Proofs
open Go Go.Sx
attribute [local irreducible] Go.Sx.Tri
def AS(x:Int):List Value:=[.int .u8 x]
structure Bt (V:Mem)(s:Sl)(b:List Int):Prop where
 rows:Ad V s 1 (b.map AS)
 b:An b
section
variable{V V':Mem}{s:Sl}{b:List Int}
theorem Bt.sub(h:Bt V s b)(k:V.sub V'):Bt V' s b:=⟨h.rows.sub k,h.b⟩
theorem Bt.n(h:Bt V s b):s.n=b.length:=h.rows.n_eq
theorem Bt.nil:Bt V Ah []:=⟨Ad.nil,λ_ h=>by cases h⟩
theorem Bt.post(h:Bt V s b){j:Nat}(k:j<=b.length):Bt V ⟨if(s.c:Int)=(j:Int)then s.p else Aa s.p ((j:Int).toNat*1),((s.n:Int)-(j:Int)).toNat,((s.c:Int)-(j:Int)).toNat⟩ (b.drop j):=⟨h.rows.post k,h.b.drop j⟩
theorem Bt.pre(h:Bt V s b){j:Nat}(k:j<=b.length):Bt V ⟨s.p,j,s.c⟩ (b.take j):=⟨Ad.pre h.rows k,h.b.take j⟩
theorem Own.bt{V0:Mem}(h:Sx.Own V0 V 5 1 s (b.flatMap AS))(k:An b):Bt V s b:=⟨h.rows (λ_=>rfl) (by decide),k⟩
end
def Cf(l:List Int):KB:=l.foldl (λr n=>r.push (wo n.toNat)) zA
theorem Jn(l:List Int):∀r:KB,(l.foldl (λr n=>r.push (wo n.toNat)) r).data.toList=r.data.toList++l.map λn=>wo n.toNat:=by
 induction l with
 |nil=>intro r;simp
 |cons a l k=>intro r;rw[wm,k];simp[ByteArray.push]
theorem bsOf_inj{a b:List Int}(q:An a)(H:An b)(h:Cf a=Cf b):a=b:=by
 have e:a.map (λn=>wo n.toNat)=b.map λn=>wo n.toNat:=by
  have k:=Jn a zA;have w:=Jn b zA;unfold Cf at h;rw[h,w]at k;simpa using k.symm
 have J:a.length=b.length:=by simpa using congrArg List.length e
 refine wk J λi k w=>?_;have r:(a.map (λn=>wo n.toNat))[i]?=(b.map λn=>wo n.toNat)[i]?:=by rw[e]
 rw[y4,y4,yu k,yu w]at r;simp only[zJ,zF]at r;have b1:=q _ (yo k);have b2:=H _ (yo w);have:=congrArg UInt8.toNat r;simp only[UInt8.toNat_ofNat']at this;omega
theorem GenK.bstr{P:Program}{V:Mem}{s:Sl}{b:List Int}{r dst e:TypeId}{ty:Nat}{vals:Operand->Value}{x:Operand}(M:P.underlying r=some (.slice e))(L:P.underlying e=some (.int .u8))(R:P.underlying dst=some .string)(Y:vals x=.slice s.p s.n s.c)(h:Bt V s b){q:Value->Mem->Prop}(Q:q (.string (Cf b)) V):GenK P (.convert r dst x) ty vals V q:=by
 intro w hw;refine⟨_,w,V,?_,Aq.refl hw,Q⟩;have G:=h.n;unfold execOp;simp only[Y,zK,run_convert_bytes_string w r dst e s.p s.n s.c M L R];by_cases J:b=[]
 ·subst J;rw[G];cases s.p with
  |none=>simp[wj,zK,zM,loadCells,loadCellsFrom,Cf]
  |some a=>simp[wj,zK,zM,loadCells,loadCellsFrom,Cf]
 ·have A:0<b.length:=List.length_pos_iff.2 J;cases I:s.p with
  |none=>
   have:=h.rows.base (i:=0) (by simpa using A);rw[I]at this;cases this
  |some a=>
   have k:=Ad.flat (V:=V) (sz:=1) (by decide) b a J λi x N=>by
    have:=h.rows.at_get N;rw[I]at this;exact this
   have H:b.flatMap AS=b.map (xw .u8):=by
    clear k J A h G Y Q;induction b with
    |nil=>rfl
    |cons a b X=>rw[yc,X];rfl
   rw[H,wy]at k;have Z:(loadCells a b.length).run P w=.ok (b.map (xw .u8)).toArray w:=by
    have:=run_loadCells_list (P:=P) w a (b.map (xw .u8)) (λj v C=>(row_le hw k).2 j v C);rwa [wq]at this
   rw[G,run_bytesToString w a b.length s.c b Z];rfl
theorem Ek:AppP 34 5 1 AS:=appG Tryz.underlying34 (by kernel_rfl) (by kernel_rfl) (by kernel_rfl) (by kernel_rfl) (by kernel_rfl) (by decide) (by intro _;rfl) (λx u k=>by simp only[AS,yD,List.not_mem_nil,or_false]at k;subst k;rfl)
theorem Jo{V:Mem}{l:Sl}{xs:List Int}(h:Ad V l 1 (xs.map AS))(r:xs.length<=2147483648):Tri xE 67 #[l.v] V λe V'=>∃s:Sl,e=.returned (.slice s.p s.n s.c)/\Sx.Own V V' 5 1 s (xs.flatMap AS):=by
 refine NC ?_;refine⟨λq=>⟨⟨none,0,0⟩,rfl,?_⟩,λq H k=>?_⟩
 ·have:xs=[]:=by
   cases xs with
   |nil=>rfl
   |cons a G=>
    have:=h.base (i:=0) (by simp);simp_all
  grind[Own.nil,Mem.sub.refl]
 ·have w:=Mem.sub_new k (.cells #[] 5 (0,0));exact Ek (s:=⟨some ⟨H,0,none⟩,0,0⟩) (u:=l) (xs:=[]) (ys:=xs) rfl rfl (Own.empty (V0:=V) w _ _ _) (h.sub w) (by simpa using r) λs' V' J=>⟨s',rfl,s',rfl,by simpa using J⟩
end Go.Proofs
namespace Go.Proofs
open Go Go.Sx
attribute [local irreducible] Go.Sx.Tri
structure Oe where
 name:KB
 sl:Sl
 args:List Int
end Go.Proofs
namespace Go.Proofs
open Go Go.Sx
abbrev Bj:=List (Int×Int)
def RV(B:Bj)(ty:KB)(v k:Int):Prop:=if Bo ty=true then k=v else(v=0/\k=0)∨(v,k)∈B
def RL(B:Bj)(l:List Fld)(vs k:List Int):Prop:=k.length=vs.length/\∀(j:Nat) f v v',l[j]?=some f->vs[j]?=some v->k[j]?=some v'->RV B f.ty v v'
structure E9 (d:Ds)(B:Bj)(s t:St):Prop where
 bij:∀a b a' b',(a,b)∈B->(a',b')∈B->(a=a'↔b=b')
 node:∀a b,(a,b)∈B->∃(i j:Nat)(ty:Int)(f f':List Int),a=(i:Int)+1/\b=(j:Int)+1/\s.ns[i]?=some (ty,f)/\t.ns[j]?=some (ty,f')/\RL B (Bg d ty) f f'
 glob:RL B d.globals s.g t.g
 tk:t.tk=s.tk
 cm:t.cm=s.cm
 nd:nodesN t.lg=nodesN s.lg
 len:t.ns.length<=s.ns.length
section
variable{d:Ds}{F:Nat}{B B':Bj}{s t:St}
theorem RV.plain{ty:KB}{v k:Int}(h:RV B ty v k)(w:Bo ty=true):k=v:=by unfold RV at h;rw[if_pos w]at h;exact h
theorem RV.ref{ty:KB}{v k:Int}(h:RV B ty v k)(w:Bo ty=false):(v=0/\k=0)∨(v,k)∈B:=by unfold RV at h;rw[if_neg (by rw[w];decide)]at h;exact h
theorem RL.at_{l:List Fld}{vs k:List Int}(h:RL B l vs k){j:Nat}{f:Fld}{v:Int}(H:l[j]?=some f)(r:vs[j]?=some v):∃q,k[j]?=some q/\RV B f.ty v q:=by
 have J:=(yv.1 r).1;have w:k[j]?=some (k[j]'(by have:=h.1;omega)):=yu _;exact⟨_,w,h.2 j f v _ H r w⟩
end
end Go.Proofs
namespace Go.Proofs
open Go Go.Sx
structure Sr where
 order:List Int
 again:Int
def CN(x:Fld×Int):Bool:=!Bo x.1.ty&&decide (x.2≠0)
def tgtI(l:List Fld)(vs:List Int)(i:Nat):List Int:=(((l.zip vs).take i).filter CN).map (·.2)
def Cv(l:List Fld)(vs:List Int):List Int:=((l.zip vs).filter CN).map (·.2)
def nodeTgt(d:Ds)(m:Mm)(n:Int):List Int:=match m.nodes[(n-1).toNat]? with|some x=>Cv (Bg d x.ty) x.f|none=>[]
def AW(d:Ds)(m:Mm):Nat->Sr->Int->Sr
 |0,st,_=>st
 |f+1,st,n=>if n∈st.order then⟨st.order,if st.again=0 then n else st.again⟩else(nodeTgt d m n).foldl (AW d m f) ⟨st.order++[n],st.again⟩
def lookP(d:Ds)(m:Mm)(f:Nat)(st:Sr)(l:List Fld)(vs:List Int):Sr:=(Cv l vs).foldl (AW d m f) st
def AJ(d:Ds)(m:Mm):Sr:=lookP d m (m.nodes.length+1) ⟨[],0⟩ d.globals m.globals
theorem tgtI_zero(l:List Fld)(vs:List Int):tgtI l vs 0=[]:=rfl
theorem Jp{l:List Fld}{vs:List Int}{i:Nat}{f:Fld}{v:Int}(k:l[i]?=some f)(w:vs[i]?=some v):tgtI l vs (i+1)=tgtI l vs i++if CN (f,v)=true then[v]else[]:=by
 have r:(l.zip vs)[i]?=some (f,v):=by rw[wi];exact⟨k,w⟩
 unfold tgtI;rw[wh,r,List.filter_append,yP];by_cases h:CN (f,v)=true;·simp[h]
 ·simp[h]
theorem tgtI_all{l:List Fld}{vs:List Int}{i:Nat}(h:l.length<=i):tgtI l vs i=Cv l vs:=by
 unfold tgtI Cv;rw[wH];rw[wg];omega
def Bv(m:Mm)(st:Sr):Nat:=((zB m.nodes.length).filter λ(i:Nat)=>!decide (((i:Int)+1)∈st.order)).length
theorem Jq(d:Ds)(m:Mm):∀(f:Nat)(st:Sr)(n:Int),∀x∈st.order,x∈(AW d m f st n).order
 |0,st,n,x,h=>h
 |f+1,st,n,x,h=>by
  unfold AW;split;·exact h
  ·have:∀(l:List Int)(s:Sr),x∈s.order->x∈(l.foldl (AW d m f) s).order:=λl=>by
    induction l with
    |nil=>exact λs h=>h
    |cons a l k=>exact λs h=>k _ (Jq d m f s a x h)
   exact this _ _ (we _ h)
theorem foldP_sub(d:Ds)(m:Mm)(f:Nat)(x:Int):∀(l:List Int)(s:Sr),x∈s.order->x∈(l.foldl (AW d m f) s).order:=λl=>by
 induction l with
 |nil=>exact λs h=>h
 |cons a l k=>exact λs h=>k _ (Jq d m f s a x h)
theorem KR{α:Type}{p q:α->Bool}:∀{l:List α},(∀a∈l,q a=true->p a=true)->(l.filter q).length<=(l.filter p).length
 |[],_=>Nat.le_refl _
 |a::l,h=>by
  have k:=KR (l:=l) λx w=>h x (za _ w);have r:=h a zb;rw[z8,z8];cases H:q a with
  |true=>rw[r H];simpa using k
  |false=>
   cases J:p a with
   |true=>simp;omega
   |false=>simpa using k
theorem filter_lt{α:Type}{p q:α->Bool}:∀{l:List α},(∀a∈l,q a=true->p a=true)->∀a∈l,p a=true->q a=false->(l.filter q).length<(l.filter p).length
 |[],_,a,k,_,_=>by cases k
 |b::l,h,a,k,r,H=>by
  have J:∀x∈l,q x=true->p x=true:=λx N=>h x (za _ N);rw[z8,z8];rcases yD.1 k with rfl|hm
  ·rw[r,H];have:=KR J;simp;omega
  ·have G:=filter_lt J a hm r H;have Z:=h b zb;cases w:q b with
   |true=>rw[Z w];simpa using G
   |false=>
    cases Y:p b with
    |true=>simp;omega
    |false=>simpa using G
section
variable{d:Ds}{m:Mm}{st:Sr}
theorem unS_le{a b:Sr}(h:∀x∈a.order,x∈b.order):Bv m b<=Bv m a:=by
 unfold Bv;refine KR λi _ w=>?_;simp only[zU,decide_eq_false_iff_not]at w⊢;exact λk=>w (h _ k)
theorem unS_lt{n:Int}(r:1<=n/\n<=(m.nodes.length:Int))(h:¬n∈st.order){a:Int}:Bv m ⟨st.order++[n],a⟩<Bv m st:=by
 unfold Bv;obtain⟨i,rfl⟩:∃i:Nat,n=(i:Int)+1:=⟨(n-1).toNat,by omega⟩;refine filter_lt (λj _ w=>?_) i (yY.2 (by omega)) (by simpa using h) (by simp);simp only[zU,decide_eq_false_iff_not]at w⊢;exact λk=>w (we _ k)
theorem ref_in{xs:List Fld}{vs:List Int}(h:Bb d m xs vs=true){i:Nat}{f:Fld}{v:Int}(H:xs[i]?=some f)(r:vs[i]?=some v)(w:Bo f.ty=false)(J:v≠0):1<=v/\v<=(m.nodes.length:Int):=by
 obtain⟨Z,k,q⟩:=values_at h H;rw[r]at k;cases k;unfold Bo at w;simp only[Bool.or_eq_false_iff,decide_eq_false_iff_not]at w;unfold Ce at q;rw[if_neg w.1,if_neg w.2,decide_eq_true_eq]at q;rcases q with h|⟨G,N,-⟩;·exact absurd h J
 ·exact⟨G,N⟩
end
section
variable{d:Ds}{m c:Mm}{O:List Int}
structure Cl (d:Ds)(m:Mm)(a b:Sr):Prop where
 sub:∀x∈a.order,x∈b.order
 shut:∀x∈b.order,x∈a.order∨∀y∈nodeTgt d m x,y∈b.order
 dup:a.order.Nodup->b.order.Nodup
 rng:(∀x∈a.order,1<=x/\x<=(m.nodes.length:Int))->∀x∈b.order,1<=x/\x<=(m.nodes.length:Int)
 cap:a.order.length+Bv m a<=m.nodes.length->b.order.length+Bv m b<=m.nodes.length
theorem Cl.trans{a b e:Sr}(h:Cl d m a b)(k:Cl d m b e):Cl d m a e:=⟨λx w=>k.sub x (h.sub x w),λx w=>by
 rcases k.shut x w with w|w
 ·rcases h.shut x w with w|w;·exact .inl w
  ·exact .inr λy q=>k.sub y (w y q)
 ·exact .inr w,λn=>k.dup (h.dup n),λr=>k.rng (h.rng r),λr=>k.cap (h.cap r)⟩
theorem Hq{l:List Fld}{vs:List Int}{y:Int}:y∈Cv l vs↔∃(i:Nat)(f:Fld),l[i]?=some f/\vs[i]?=some y/\Bo f.ty=false/\y≠0:=by
 unfold Cv CN;simp only[wc,List.mem_filter,zC,zU,decide_eq_true_eq,Prod.exists,exists_eq_right];constructor
 ·rintro⟨f,h,k,w⟩;obtain⟨i,r⟩:=wb.1 h;rw[wi]at r;exact⟨i,f,r.1,r.2,k,w⟩
 ·rintro⟨i,f,h,k,w,q⟩;exact⟨f,wb.2 ⟨i,wi.2 ⟨h,k⟩⟩,w,q⟩
theorem tgt_in(J:AB d m=true):(∀y∈Cv d.globals m.globals,1<=y/\y<=(m.nodes.length:Int))/\∀n,∀y∈nodeTgt d m n,1<=y/\y<=(m.nodes.length:Int):=by
 obtain⟨-,-,-,G,N⟩:=DS J;refine⟨λy k=>?_,λn y k=>?_⟩
 ·obtain⟨i,f,w,r,q,H⟩:=Hq.1 k;exact ref_in G w r q H
 ·unfold nodeTgt at k;split at k
  ·rename_i x Z;obtain⟨i,f,w,r,q,H⟩:=Hq.1 k;exact ref_in (N x (xQ Z)) w r q H
  ·cases k
theorem Jr{f:Nat}(H:∀st n,1<=n/\n<=(m.nodes.length:Int)->Bv m st<f->Cl d m st (AW d m f st n)/\n∈(AW d m f st n).order):
  ∀(l:List Int)(s:Sr),(∀y∈l,1<=y/\y<=(m.nodes.length:Int))->Bv m s<f->Cl d m s (l.foldl (AW d m f) s)/\∀y∈l,y∈(l.foldl (AW d m f) s).order
 |[],s,_,_=>⟨⟨λ_ h=>h,λ_ h=>.inl h,λh=>h,λh=>h,λh=>h⟩,λ_ h=>by cases h⟩
 |a::l,s,w,J=>by
  obtain⟨r,G⟩:=H s a (w a zb) J;obtain⟨q,N⟩:=Jr H l (AW d m f s a) (λy k=>w y (za _ k)) (by have:=unS_le (m:=m) r.sub;omega);refine⟨r.trans q,λy k=>?_⟩;rcases yD.1 k with rfl|k;·exact q.sub _ G
  ·exact N y k
theorem ent_cl(q:AB d m=true):∀(f:Nat)(st:Sr)(n:Int),1<=n/\n<=(m.nodes.length:Int)->Bv m st<f->Cl d m st (AW d m f st n)/\n∈(AW d m f st n).order
 |0,_,_,_,h=>absurd h (wa _)
 |f+1,st,n,H,Q=>by
  rw[AW];split;·rename_i h;exact⟨⟨λ_ h=>h,λ_ h=>.inl h,λh=>h,λh=>h,λh=>h⟩,h⟩
  ·rename_i r;have J:=unS_lt H r (a:=st.again);obtain⟨w,G⟩:=Jr (ent_cl q f) (nodeTgt d m n) ⟨st.order++[n],st.again⟩ (λy N=>(tgt_in q).2 n y N) (by omega);have hm:n∈(⟨st.order++[n],st.again⟩:Sr).order:=by simp
   refine⟨⟨λx k=>w.sub x (we _ k),λx k=>?_,λh=>w.dup ?_,λh=>w.rng λx k=>?_,λh=>w.cap ?_⟩,w.sub n hm⟩
   ·rcases w.shut x k with h|h
    ·rcases wZ.1 h with h|h;·exact .inl h
     ·rw[zO.1 h];exact .inr G
    ·exact .inr h
   ·show(st.order++[n]).Nodup;rw[List.nodup_append];refine⟨h,by simp,λa Z b Y e=>r ?_⟩;rw[<-zO.1 Y,<-e];exact Z
   ·rcases wZ.1 k with k|k;·exact h x k
    ·rw[zO.1 k];exact H
   ·show(st.order++[n]).length+_<=_;rw[zw,w9];omega
structure Hr (d:Ds)(m:Mm)(O:List Int):Prop where
 dup:O.Nodup
 rng:∀x∈O,1<=x/\x<=(m.nodes.length:Int)
 glob:∀y∈Cv d.globals m.globals,y∈O
 shut:∀x∈O,∀y∈nodeTgt d m x,y∈O
 cap:O.length<=m.nodes.length
theorem H8:Bv m ⟨[],0⟩<=m.nodes.length:=by
 unfold Bv;have:=List.length_filter_le (λi:Nat=>!decide (((i:Int)+1)∈(⟨[],0⟩:Sr).order)) (zB m.nodes.length);rw[List.length_range]at this;exact this
theorem GG(r:AB d m=true):Hr d m (AJ d m).order:=by
 have H:=H8 (m:=m);obtain⟨k,q⟩:=Jr (ent_cl r (m.nodes.length+1)) (Cv d.globals m.globals) ⟨[],0⟩ (tgt_in r).1 (by omega);refine⟨k.dup List.nodup_nil,k.rng (λx w=>by cases w),q,λx w=>?_,?_⟩
 ·rcases k.shut x w with h|h;·cases h
  ·exact h
 ·have:=k.cap (by show 0+_<=_;omega);exact Nat.le_trans (Nat.le_add_right _ _) this
def CP(l:List Int)(x:Int):Int:=CY (λy=>decide (y=x)) l
def Cq(O:List Int)(x:Int):Int:=if x=0 then 0 else CP O x+1
def Bi(O:List Int)(l:List Fld)(vs:List Int):List Int:=(l.zip vs).map λx=>if Bo x.1.ty=true then x.2 else Cq O x.2
structure IsCan (d:Ds)(m c:Mm)(O:List Int):Prop where
 globals:c.globals=Bi O d.globals m.globals
 len:c.nodes.length=O.length
 at_:∀(i:Nat) n x,O[i]?=some n->m.nodes[(n-1).toNat]?=some x->∃s,c.nodes[i]?=some ⟨x.ty,s,Bi O (Bg d x.ty) x.f⟩
theorem pos_at(h:O.Nodup){i:Nat}{x:Int}(w:O[i]?=some x):CP O x=i:=by
 unfold CP;rcases Dn (λy=>decide (y=x)) O with⟨-,-,k⟩|⟨j,y,k,r,-,q,H,-⟩
 ·rw[vA]at k;exact absurd (decide_eq_true rfl) (k x (xQ w))
 ·have e:y=x:=of_decide_eq_true H;subst e;rw[k,(List.getElem?_inj q h).1 (r.trans w.symm)]
theorem pos_mem(h:O.Nodup){x:Int}(w:x∈O):∃i:Nat,O[i]?=some x/\CP O x=i/\i<O.length:=by
 obtain⟨i,k⟩:=wb.1 w;exact⟨i,k,pos_at h k,(yv.1 k).1⟩
theorem Hs(R:Hr d m O){x:Int}(k:x∈O):∃i:Nat,O[i]?=some x/\Cq O x=(i:Int)+1/\i<O.length:=by
 obtain⟨i,w,r,q⟩:=pos_mem R.dup k;have:=R.rng x k;exact⟨i,w,by unfold Cq;rw[if_neg (by omega),r],q⟩
theorem GH:Cq O 0=0:=by unfold Cq;rw[if_pos rfl]
theorem rho_inj(R:Hr d m O){x y:Int}(w:x=0∨x∈O)(k:y=0∨y∈O)(h:Cq O x=Cq O y):x=y:=by
 rcases w with rfl|w
 ·rcases k with rfl|k;·rfl
  ·obtain⟨i,-,q,-⟩:=Hs R k;rw[GH]at h;omega
 ·obtain⟨i,H,q,-⟩:=Hs R w;rcases k with rfl|k;·rw[GH]at h;omega
  ·obtain⟨j,r,J,-⟩:=Hs R k;have:i=j:=by omega
   subst this;rw[H]at r;cases r;rfl
theorem Ht{l:List Fld}{vs:List Int}{i:Nat}{f:Fld}{v:Int}(k:l[i]?=some f)(w:vs[i]?=some v):(Bi O l vs)[i]?=some (if Bo f.ty=true then v else Cq O v):=by
 have r:(l.zip vs)[i]?=some (f,v):=wi.2 ⟨k,w⟩;unfold Bi;rw[y4,r];rfl
end
end Go.Proofs
namespace Go.Proofs
open Go Go.Sx
inductive F2 (B:Bj):List Int->List Int->Prop where
 |nil:F2 B [] []
 |cons {a b:Int} {l l':List Int} (h:(a,b)∈B) (t:F2 B l l'):F2 B (a::l) (b::l')
section
variable{d:Ds}{B:Bj}{s t:St}
theorem F2.app{l l' k w:List Int}(h:F2 B l l')(g:F2 B k w):F2 B (l++k) (l'++w):=by
 induction h with
 |nil=>exact g
 |cons h _ r=>exact .cons h r
theorem F2.len{l l':List Int}(h:F2 B l l'):l'.length=l.length:=by
 induction h with
 |nil=>rfl
 |cons _ _ k=>simp[k]
theorem F2.at_{l l':List Int}(h:F2 B l l'):∀(i:Nat) a,l[i]?=some a->∃b,l'[i]?=some b/\(a,b)∈B:=by
 induction h with
 |nil=>intro i a h;simp at h
 |cons h _ w=>
  intro i a k;cases i with
  |zero=>simp at k;subst k;exact⟨_,rfl,h⟩
  |succ i=>obtain⟨b,r,q⟩:=w i a (by simpa using k);exact⟨b,by simpa using r,q⟩
theorem F2.mem{l l':List Int}(h:F2 B l l')(S:E9 d B s t){x y:Int}(k:(x,y)∈B):x∈l↔y∈l':=by
 induction h with
 |nil=>exact⟨λh=>(by cases h),λh=>(by cases h)⟩
 |@cons a b _ _ h _ w=>
  rw[yD,yD,w,S.bij _ _ _ _ k h]
theorem tgt_sim(S:E9 d B s t):∀(l:List Fld)(vs k:List Int),RL B l vs k->F2 B (Cv l vs) (Cv l k)
 |[],vs,k,_=>by unfold Cv;rw[vB,vB];exact .nil
 |f::l,[],k,h=>by
  obtain rfl:k=[]:=List.eq_nil_of_length_eq_zero h.1;exact .nil
 |f::l,v::vs,[],h=>by have:=h.1;simp at this
 |f::l,v::vs,H::k,h=>by
  have q:=tgt_sim S l vs k ⟨by simpa using h.1,λj g w w' a b c=>h.2 (j+1) g w w' (by simpa using a) (by simpa using b) (by simpa using c)⟩;have J:=h.2 0 f v H rfl rfl rfl;unfold Cv at q⊢;rw[xg,xg,z8,z8];have e:CN (f,v)=CN (f,H):=by
   unfold CN;cases G:Bo f.ty with
   |true=>simp[G]
   |false=>
    rcases J.ref G with⟨rfl,rfl⟩|hm;·rfl
    ·obtain⟨i,j,_,_,_,rfl,rfl,-⟩:=S.node _ _ hm;rw[decide_eq_true (show((i:Int)+1)≠0 by omega),decide_eq_true (show((j:Int)+1)≠0 by omega)]
  rw[<-e];cases r:CN (f,v)with
  |false=>exact q
  |true=>
   rw[if_pos rfl,if_pos rfl];refine .cons ?_ q;unfold CN at r;rw[zC,zU,decide_eq_true_eq]at r;rcases J.ref r.1 with⟨N,-⟩|hm;·exact absurd N r.2
   ·exact hm
theorem nodeTgt_sim(S:E9 d B s t){x y:Int}(h:(x,y)∈B):F2 B (nodeTgt d s.mm x) (nodeTgt d t.mm y):=by
 obtain⟨i,j,ty,f,f',rfl,rfl,k,w,r⟩:=S.node _ _ h;unfold nodeTgt;rw[show((i:Int)+1-1).toNat=i by omega,show((j:Int)+1-1).toNat=j by omega,HY,HY,k,w];exact tgt_sim S _ _ _ r
theorem E9.rng(S:E9 d B s t){x y:Int}(h:(x,y)∈B):(1<=x/\x<=(s.mm.nodes.length:Int))/\1<=y/\y<=(t.mm.nodes.length:Int):=by
 obtain⟨i,j,ty,f,f',rfl,rfl,k,w,-⟩:=S.node _ _ h;have:=(yv.1 k).1;have:=(yv.1 w).1;rw[mm_len,mm_len];omega
theorem fold_sim2{f f':Nat}(E:∀(a a':Sr)(n w:Int),(n,w)∈B->F2 B a.order a'.order->Bv s.mm a<f->Bv t.mm a'<f'->F2 B (AW d s.mm f a n).order (AW d t.mm f' a' w).order):
  ∀{l l':List Int},F2 B l l'->∀(a a':Sr),F2 B a.order a'.order->Bv s.mm a<f->Bv t.mm a'<f'->F2 B (l.foldl (AW d s.mm f) a).order (l'.foldl (AW d t.mm f') a').order:=by
 intro l l' h;induction h with
 |nil=>exact λa a' h _ _=>h
 |@cons x y l l' k _ r=>
  intro a a' q H J;have G:=unS_le (m:=s.mm) (Jq d s.mm f a x);have N:=unS_le (m:=t.mm) (Jq d t.mm f' a' y);exact r _ _ (E a a' x y k q H J) (by omega) (by omega)
theorem ent_sim2(S:E9 d B s t):∀(f f':Nat)(a a':Sr)(n q:Int),(n,q)∈B->F2 B a.order a'.order->Bv s.mm a<f->Bv t.mm a'<f'->F2 B (AW d s.mm f a n).order (AW d t.mm f' a' q).order
 |0,_,_,_,_,_,_,_,h,_=>absurd h (wa _)
 |_+1,0,_,_,_,_,_,_,_,h=>absurd h (wa _)
 |f+1,f'+1,a,a',n,q,r,H,N,Z=>by
  rw[AW,AW];have hm:=H.mem S r;by_cases w:n∈a.order;·rw[if_pos w,if_pos (hm.1 w)];exact H
  ·rw[if_neg w,if_neg λk=>w (hm.2 k)];obtain⟨J,G⟩:=S.rng r;have Y:=unS_lt J w (a:=a.again);have Q:=unS_lt G (λk=>w (hm.2 k)) (a:=a'.again);exact fold_sim2 (ent_sim2 S f f') (nodeTgt_sim S r) _ _ (H.app (.cons r .nil)) (by omega) (by omega)
theorem reach_sim2(S:E9 d B s t):F2 B (AJ d s.mm).order (AJ d t.mm).order:=
 fold_sim2 (ent_sim2 S _ _) (tgt_sim S _ _ _ S.glob) ⟨[],0⟩ ⟨[],0⟩ .nil (by have:=H8 (m:=s.mm);omega) (by have:=H8 (m:=t.mm);omega)
def Bx(d:Ds)(m:Mm):List Int×List (Int×List Int):=
 (Bi (AJ d m).order d.globals m.globals,(AJ d m).order.map λn=>match m.nodes[(n-1).toNat]? with|some x=>(x.ty,Bi (AJ d m).order (Bg d x.ty) x.f)|none=>(0,[]))
theorem renL_sim(S:E9 d B s t){O H:List Int}(R:Hr d s.mm O)(Q:Hr d t.mm H)(h:F2 B O H){l:List Fld}{vs r:List Int}(Z:RL B l vs r)(A:∀y∈Cv l vs,y∈O):Bi O l vs=Bi H l r:=by
 refine zx λj=>?_;cases q:l[j]? with
 |none=>
  have e:∀(O:List Int)(k:List Int),(Bi O l k)[j]?=none:=λO k=>by
   unfold Bi;rw[y4];have:(l.zip k)[j]?=none:=by
    rw[vC]at q⊢;rw[wg];omega
   rw[this];rfl
  rw[e,e]
 |some f=>
  cases hw:vs[j]? with
  |none=>
   have e:∀(O:List Int)(k:List Int),k.length=vs.length->(Bi O l k)[j]?=none:=λO k K=>by
    unfold Bi;rw[y4];have:(l.zip k)[j]?=none:=by
     rw[vC]at hw⊢;rw[wg];omega
    rw[this];rfl
   rw[e _ _ rfl,e _ _ Z.1]
  |some v=>
   obtain⟨I,J,Y⟩:=Z.at_ q hw;rw[Ht q hw,Ht q J];cases G:Bo f.ty with
   |true=>rw[if_pos rfl,if_pos rfl,Y.plain G]
   |false=>
    rw[if_neg (by decide),if_neg (by decide)];rcases Y.ref G with⟨rfl,rfl⟩|hm;·rw[GH,GH]
    ·have M:v≠0:=by have:=(S.rng hm).1;omega
     have L:=A v (Hq.2 ⟨j,f,q,hw,G,M⟩);obtain⟨i,X,C,-⟩:=Hs R L;obtain⟨w,D,E⟩:=h.at_ i v X;have e:w=I:=(S.bij _ _ _ _ E hm).1 rfl;subst e;have N:w≠0:=by have:=(S.rng hm).2;omega
     rw[C];unfold Cq;rw[if_neg N,pos_at Q.dup D]
theorem can_sim(S:E9 d B s t)(G:AB d s.mm=true)(N:AB d t.mm=true):Bx d s.mm=Bx d t.mm:=by
 have R:=GG G;have H:=GG N;have h:=reach_sim2 S;unfold Bx;refine Prod.ext (renL_sim S R H h S.glob R.glob) (zx λi=>?_);rw[y4,y4];cases w:(AJ d s.mm).order[i]? with
 |none=>
  have:(AJ d t.mm).order[i]?=none:=by
   rw[vC]at w⊢;rw[h.len];exact w
  rw[this];rfl
 |some x=>
  obtain⟨y,Z,r⟩:=h.at_ i x w;rw[Z];obtain⟨q,j,ty,f,f',rfl,rfl,J,Y,Q⟩:=S.node _ _ r;have k:=R.shut _ (xQ w);unfold nodeTgt at k;rw[show((q:Int)+1-1).toNat=q by omega,HY,J]at k;simp only[zJ];rw[show((q:Int)+1-1).toNat=q by omega,show((j:Int)+1-1).toNat=j by omega,HY,HY,J,Y];simp only[zJ];rw[renL_sim S R H h Q k]
theorem sim_start{m c:Mm}(w:AB d m=true)(I:IsCan d m c (AJ d m).order):E9 d ((AJ d m).order.map λx=>(x,Cq (AJ d m).order x)) (stOf m) (stOf c):=by
 have R:=GG w;have k:∀{a b:Int},(a,b)∈((AJ d m).order.map λx=>(x,Cq (AJ d m).order x))->a∈(AJ d m).order/\b=Cq (AJ d m).order a:=λh=>by
  obtain⟨x,Z,e⟩:=wc.1 h;cases e;exact⟨Z,rfl⟩
 have rel:∀{l:List Fld}{vs:List Int},l.length=vs.length->(∀y∈Cv l vs,y∈(AJ d m).order)->RL ((AJ d m).order.map λx=>(x,Cq (AJ d m).order x)) l vs (Bi (AJ d m).order l vs):=λ{l vs} S Y=>by
  refine⟨by unfold Bi;rw[wq,wg];omega,λj f v T G w r=>?_⟩;rw[Ht G w]at r;rw[<-Option.some.inj r];unfold RV;cases Q:Bo f.ty with
  |true=>rfl
  |false=>
   rw[if_neg (by decide),if_neg (by decide)];by_cases N:v=0;·left;rw[N];exact⟨rfl,GH⟩
   ·right;exact wc.2 ⟨v,Y v (Hq.2 ⟨j,f,G,w,Q,N⟩),rfl⟩
 obtain⟨p1,U,p3,A,M⟩:=DS w;refine⟨λa b a' b' L X=>?_,λa b h=>?_,?_,rfl,rfl,rfl,?_⟩
 ·obtain⟨C,rfl⟩:=k L;obtain⟨D,rfl⟩:=k X;exact⟨λe=>by rw[e],λe=>rho_inj R (.inr C) (.inr D) e⟩
 ·obtain⟨hm,rfl⟩:=k h;obtain⟨j,E,K,j3⟩:=Hs R hm;have hr:=R.rng a hm;obtain⟨i,rfl⟩:∃i:Nat,a=(i:Int)+1:=⟨(a-1).toNat,by omega⟩;have q:i<m.nodes.length:=by omega
  have H:m.nodes[i]?=some m.nodes[i]:=yu q;obtain⟨sl,J⟩:=I.at_ j ((i:Int)+1) m.nodes[i] E (by rw[show((i:Int)+1-1).toNat=i by omega];exact H);refine⟨i,j,m.nodes[i].ty,m.nodes[i].f,Bi (AJ d m).order (Bg d m.nodes[i].ty) m.nodes[i].f,rfl,K,?_,?_,rel (Hj.1 (M _ (yo _))).1 ?_⟩;·show(m.nodes.map _)[i]?=_;rw[y4,H];rfl
  ·show(c.nodes.map _)[j]?=_;rw[y4,J];rfl
  ·have:=R.shut _ hm;unfold nodeTgt at this;rw[show((i:Int)+1-1).toNat=i by omega,H]at this;exact this
 ·show RL _ d.globals m.globals c.globals;rw[I.globals];exact rel (Hj.1 A).1 R.glob
 ·show(c.nodes.map _).length<=(m.nodes.map _).length;rw[wq,wq,I.len];exact R.cap
end
end Go.Proofs
namespace Go.Proofs
open Go Go.Sx
attribute [local irreducible] Go.Sx.Tri
section
variable{V0 V V1:Mem}{d:Ds}{m:Mm}{p ib:Nat}{st:Sr}{o:Sl}
def srow(d:Ds)(m:Mm)(o:Sl)(ib:Nat)(a:Int):List Value:=[Go.Sx.vS d.name,d.ts.v,d.gs.v,d.ps.v,d.ms.v,d.is.v,d.qs.v,d.bs.v,m.gs.v,m.ns.v,o.v,.map (some ib),.int .i64 a]
def kn(O:List Int)(n:Int):Option Int:=if n∈O then some (CP O n+1)else none
theorem pos_app{O:List Int}{n x:Int}(k:x∈O):CP (O++[n]) x=CP O x:=by
 unfold CP CY;rw[vD];cases h:O.findIdx? (λy=>decide (y=x))with
 |none=>exact absurd (decide_eq_true rfl) (by rw[vF.1 h x k];decide)
 |some i=>rfl
theorem pos_new{O:List Int}{n:Int}(k:¬n∈O):CP (O++[n]) n=(O.length:Int):=by
 unfold CP CY;have h:O.findIdx? (λy=>decide (y=n))=none:=vF.2 λx w=>decide_eq_false (by rintro rfl;exact k w);rw[vD,h];simp[ym]
theorem kn_new{O:List Int}{n:Int}(w:¬n∈O)(x:Int):kn (O++[n]) x=if x=n then some ((O.length:Int)+1)else kn O x:=by
 unfold kn;by_cases k:x=n
 ·subst k;rw[if_pos (by simp),if_pos rfl,pos_new w]
 ·rw[if_neg k];by_cases hm:x∈O;·rw[if_pos (by simp[hm]),if_pos hm,pos_app hm]
  ·rw[if_neg (by simp[hm,k]),if_neg hm]
structure SrAt (V0:Mem)(d:Ds)(m:Mm)(p ib:Nat)(V:Mem)(st:Sr)(o:Sl):Prop where
 at_:V p=some (.cells (srow d m o ib st.again).toArray 225 (0,0))
 own:Sx.Own V0 V 3 1 o (st.order.flatMap Am)
 map:BJ (xw .i64) V ib λn=>(kn st.order n).map (xw .i64)
 cap:st.order.length+Bv m st<=m.nodes.length
 rng:∀x∈st.order,1<=x/\x<=(m.nodes.length:Int)
structure KS (V0:Mem)(d:Ds)(m:Mm)(p ib:Nat):Prop where
 mem:AB d m=true
 ds:Ds.Ok V0 d
 mm:Mm.Ok V0 m
 p0:V0 p=none
 i0:V0 ib=none
 pi:p≠ib
theorem SrAt.cell(h:SrAt V0 d m p ib V st o)(i n:Nat)(hi:i+n<=13):V.rowp (sa p) i n=some (((srow d m o ib st.again).drop i).take n):=At h.at_ i n hi
theorem kn_pos{O:List Int}{n:Int}(h:n∈O):∃j,kn O n=some j/\1<=j:=by
 unfold kn;rw[if_pos h];refine⟨_,rfl,?_⟩;unfold CP;rcases Dn (λy=>decide (y=n)) O with⟨-,-,k⟩|⟨j,z,k,-⟩
 ·rw[vA]at k;exact absurd (decide_eq_true rfl) (k n h)
 ·rw[k];omega
def SrPost(V0:Mem)(d:Ds)(m:Mm)(p ib:Nat)(st:Sr):Ending->Mem->Prop:=λe V'=>e=.returned (.tuple #[])/\∃o,SrAt V0 d m p ib V' st o
variable(V0 d m p ib)in
def EntC(N:Nat):Prop:=∀(st:Sr)(n:Int)(f:Nat) V o,SrAt V0 d m p ib V st o->1<=n/\n<=(m.nodes.length:Int)->Bv m st<=N->Bv m st<f->
 Tri xE 209 #[pv p,.int .i64 n] V (SrPost V0 d m p ib (AW d m f st n))
theorem lookC{N:Nat}(hE:EntC V0 d m p ib N){l s:Sl}{xs:List Fld}{vs:List Int}(hl:Ad V0 l 2 (xs.map Fld.row))(hs:Ad V0 s 1 (vs.map Am))(U:Bb d m xs vs=true){f:Nat}(h:SrAt V0 d m p ib V st o)(hN:Bv m st<=N)(hf:Bv m st<f):
  Tri xE 158 #[pv p,l.v,s.v] V (SrPost V0 d m p ib ((Cv xs vs).foldl (AW d m f) st)):=by
 refine Tri.mono (x158 (R:=SrPost V0 d m p ib ((Cv xs vs).foldl (AW d m f) st)) ?_) λ_ _ h=>h;have hlen:xs.length=vs.length:=(Hj.1 U).1;refine E3 xs.length (λi V1=>∃Z,SrAt V0 d m p ib V1 ((tgtI xs vs i).foldl (AW d m f) st) Z) ⟨o,by rw[tgtI_zero];exact h⟩ ?_;rintro i V1 J hi ⟨Z,G⟩ L;have k:=hl.sub G.own.sub;have Y:=hs.sub G.own.sub;refine⟨λw=>?_,λX=>?_⟩
 ·obtain⟨x,hxm,C,-,H,hp,D,Q⟩:=k.get w;have n1:=k.n_eq;have n2:=Y.n_eq;obtain⟨y,hym,E,-,hjl,A,I,r⟩:=Y.get (i:=i) (by omega);have hu:Bv m ((tgtI xs vs i).foldl (AW d m f) st)<=Bv m st:=unS_le λz D=>foldP_sub d m f z _ _ D;have same:CN (x,y)=false->∃K,SrAt V0 d m p ib V1 ((tgtI xs vs (i+1)).foldl (AW d m f) st) K:=λS=>by
   rw[Jp C E,S,if_neg (by decide),xp];exact⟨Z,G⟩
  refine⟨hp,D,w,_,_,Q,c109.call ⟨_,rfl,λT=>⟨k.succ w,L H _ (same ?_)⟩,λT=>⟨A,I,by omega,_,r,λq=>⟨k.succ w,L H _ (same ?_)⟩,λq=>⟨A,I,by omega,_,r,?_⟩⟩⟩⟩;·unfold CN;rw[show Bo x.ty=true from T];rfl
  ·have q:y=0:=q;unfold CN;rw[q];simp
  ·have M:Bo x.ty=false:=(vG _).mp T;have q:¬y=0:=q;have S:CN (x,y)=true:=by unfold CN;rw[M,decide_eq_true q];rfl
   refine Tri.mono (hE _ y f V1 Z G (ref_in U C E M q) (by omega) (by omega)) ?_;rintro _ V2 ⟨rfl,K,h4⟩;refine⟨rfl,k.succ w,L H _ ⟨K,?_⟩⟩;rw[Jp C E,S,if_pos rfl,vH,wm,List.foldl_nil];exact h4
 ·have hd:=(k.done X).2;rw[tgtI_all hd]at G;exact⟨rfl,Z,G⟩
theorem enterC(S:KS V0 d m p ib)(N:Nat)(ih:∀N',N'<N->EntC V0 d m p ib N'):EntC V0 d m p ib N:=by
 intro st n f V o h hn hN hf;obtain⟨f,rfl⟩:∃f',f=f'+1:=⟨f-1,by omega⟩;refine Tri.mono (x209 (R:=SrPost V0 d m p ib (AW d m (f+1) st n)) ?_) λ_ _ h=>h;have hg:=h.map;refine⟨nn,nn,_,h.cell 11 1 (by decide),Bl.key1 (k:=n) (keyInt vJ) vK Hl hg ?_⟩;by_cases r:n∈st.order
 ·obtain⟨j,hj,hj1⟩:=kn_pos r;rw[hj];have e:AW d m (f+1) st n=⟨st.order,if st.again=0 then n else st.again⟩:=by unfold AW;rw[if_pos r]
  rw[e];refine⟨j,rfl,λH=>?_,λ_=>⟨nn,nn,_,h.cell 12 1 (by decide),λH=>⟨nn,nn,?_⟩,λH=>?_⟩⟩
  ·have H:j=0:=H;omega
  ·have H:st.again=0:=H;rw[if_pos H];refine AQ.at2 (off:=12) h.at_ (by simp[srow]) ⟨rfl,o,?_,h.own.put (h.own.apart λcur w=>?_) S.p0 _,hg.set S.pi.symm,h.cap,h.rng⟩;·rw[Mem.set_same];rfl
   ·rw[h.at_]at w;cases w
  ·have H:¬st.again=0:=H;rw[if_neg H];exact⟨rfl,o,h⟩
 ·have hno:kn st.order n=none:=by unfold kn;rw[if_neg r]
  rw[hno];have hcap:=h.cap;have hlt:=unS_lt (st:=st) hn r (a:=st.again);refine⟨0,rfl,λ_=>⟨nn,nn,o,h.cell 10 1 (by decide),λtb htb=>?_⟩,λH=>absurd rfl H⟩;have pne:∀cur,V p≠some (.cells cur 3 (0,0)):=λcur w=>by rw[h.at_]at w;cases w
  have ine:∀cur,V ib≠some (.cells cur 3 (0,0)):=λcur w=>by
   obtain⟨e1,U,k1,-⟩:=hg.at_;rw[k1]at w;cases w
  have m4:=(DS S.mem).2.1;have I:=(h.own.but).new htb (.cells #[.int .i64 n] 3 (0,0));refine DU (s:=o) (u:=⟨some ⟨tb,0,none⟩,1,1⟩) (xs:=st.order) (ys:=[n]) rfl rfl I (one_int As) (by simp;omega) λG V2 ho2=>⟨G,rfl,nn,nn,?_⟩;have Q:=ho2.sub;have hp2:V2 p=some (.cells (srow d m o ib st.again).toArray 225 (0,0)):=Q _ _ (Mem.but_at h.at_ (h.own.apart pne));have hg2:BJ (xw .i64) V2 ib λn=>(kn st.order n).map (xw .i64):=by
   obtain⟨e1,U,k1,k2⟩:=hg.at_;exact⟨e1,U,Q _ _ (Mem.but_at k1 (h.own.apart ine)),k2⟩
  have ho3:Sx.Own V0 V2 3 1 G ((st.order++[n]).flatMap Am):=ho2.narrow h.own.sub_but;refine AQ.at2 (off:=10) hp2 (by simp[srow]) ?_;obtain⟨M,Z⟩:∃M,M=V2.set p (.cells (srow d m G ib st.again).toArray 225 (0,0)):=⟨_,rfl⟩;have L:V2.set p (.cells ((srow d m o ib st.again).toArray.toList.take 10++[uL G]++(srow d m o ib st.again).toArray.toList.drop (10+[uL G].length)).toArray 225 (0,0))=M:=Z.symm;have X:M p=some (.cells (srow d m G ib st.again).toArray 225 (0,0)):=by rw[Z,Mem.set_same]
  have hg3:BJ (xw .i64) M ib λn=>(kn st.order n).map (xw .i64):=by rw[Z];exact hg2.set S.pi.symm
  have pne2:∀cur,V2 p≠some (.cells cur 3 (0,0)):=λcur w=>by rw[hp2]at w;cases w
  have C:Sx.Own V0 M 3 1 G ((st.order++[n]).flatMap Am):=by rw[Z];exact ho3.put (ho3.apart pne2) S.p0 _
  show ¬_/\_;rw[L];refine⟨nn,nn,_,At X 11 1 (by simp[srow]),nn,nn,G,At X 10 1 (by simp[srow]),BQ.key (k:=n) (keyInt vJ) vK hg3 λob hob=>?_⟩;have hn2:=C.n_eq (λ_=>rfl) (by decide);rw[zw,w9]at hn2;have h5:SrAt V0 d m p ib (M.set ib ob) ⟨st.order++[n],st.again⟩ G:=by
   refine⟨by rw[Mem.set_ne S.pi];exact X,C.put (C.apart λcur w=>?_) S.i0 _,hob.congr λx=>?_,?_,λx Y=>?_⟩
   ·obtain⟨e1,U,k1,-⟩:=hg3.at_;rw[k1]at w;cases w
   ·rw[kn_new r,show((st.order.length:Int)+1)=(G.n:Int)by omega];by_cases Y:x=n<;>simp[Y]
   ·show(st.order++[n]).length+_<=_;rw[zw,w9];omega
   ·rcases wZ.1 Y with Y|Y;·exact h.rng x Y
    ·rw[zO.1 Y];exact hn
  obtain⟨q,rfl⟩:∃q:Nat,n=(q:Int)+1:=⟨(n-1).toNat,by omega⟩;have D:=S.mm.sub h5.own.sub;have hdd:=S.ds.sub h5.own.sub;have hnn:=D.nodes.n_eq;obtain⟨x,E,Y,-,hl2,hpx,hzx,K⟩:=D.nodes.get (i:=q) (by omega);have hty:=(DS S.mem).2.2.1 x E;obtain⟨U,c2⟩:=of_decide_eq_true hty;obtain⟨j,hj⟩:∃j:Nat,x.ty=(j:Int):=⟨_,(vL U).symm⟩;have htn:=hdd.types.n_eq;obtain⟨t,htm,ht,-,hl3,A,hzt,T⟩:=hdd.types.get (i:=j) (by omega);have hI:IR ((q:Int)):=⟨by omega,by have:=(D.nodes.succ (i:=q) (by omega)).2;omega⟩;rw[show((q:Int)+1-1)=(q:Int)by omega];refine⟨nn,nn,Hk,m.ns,h5.cell 9 1 (by decide),hI,hpx,hzx,by omega,_,_,K,nn,nn,Hk,d.ts,h5.cell 1 1 (by decide),?_⟩;rw[hj];have hfo:=Fv ht hj;have J:=(DS S.mem).2.2.2.2 x E;rw[hfo]at J;refine⟨A,hzt,by omega,Ak A,_,_,T,Tri.mono (lookC (ih (Bv m ⟨st.order++[(q:Int)+1],st.again⟩) (by omega)) (S.ds.typesOk t htm).fields (S.mm.nodesOk x E).rows J (f:=f) h5 (Nat.le_refl _) (by omega)) ?_⟩;rintro _ V5 ⟨rfl,o5,h6⟩;refine⟨rfl,rfl,o5,?_⟩;have e:AW d m (f+1) st ((q:Int)+1)=(Cv t.fields x.f).foldl (AW d m f) ⟨st.order++[(q:Int)+1],st.again⟩:=by
   rw[AW,if_neg r];unfold nodeTgt;rw[show((q:Int)+1-1).toNat=q by omega,Y];show(Cv (Bg d x.ty) x.f).foldl _ _=_;rw[hfo]
  rw[e];exact h6
theorem entAll(S:KS V0 d m p ib):∀N,EntC V0 d m p ib N:=λN=>Nat.strongRecOn N λN k=>enterC S N k
end
section
variable{V:Mem}{d:Ds}{m:Mm}
theorem c117(k:AB d m=true)(H:Ds.Ok V d)(hm:Mm.Ok V m):Tri xE 117 #[d.v,m.v] V λe V'=>∃p ib o,e=.returned (pv p)/\SrAt V d m p ib V' (AJ d m) o:=by
 refine x117 ?_;refine GenK.makeMap λib w=>⟨some ib,rfl,λp r=>?_⟩;have J:p≠ib:=λe=>by rw[e,Mem.set_same]at r;cases r
 have q:V p=none:=by rw[Mem.set_ne J]at r;exact r
 have N:=Mem.sub_new w (.map #[] 0);have G:=Mem.sub_new r (.cells (srow d m ⟨none,0,0⟩ ib 0).toArray 225 (0,0));have S:KS V d m p ib:=⟨k,H,hm,q,w,J⟩;have Z:Bv m ⟨[],0⟩<=m.nodes.length:=H8;have Y:SrAt V d m p ib ((V.set ib (.map #[] 0)).set p (.cells (srow d m ⟨none,0,0⟩ ib 0).toArray 225 (0,0))) ⟨[],0⟩ ⟨none,0,0⟩:=
  ⟨Mem.set_same _ _ _,Own.nil (N.trans G) _ _,(((BJ.made V ib).sub G)).congr λ_=>rfl,by show 0+Bv m ⟨[],0⟩<=_;omega,λx h=>by simp at h⟩
 refine Tri.mono (lookC (entAll S m.nodes.length) H.globals hm.globals (DS k).2.2.2.1 (f:=m.nodes.length+1) Y Z (by omega)) ?_;rintro _ V2 ⟨rfl,o,h⟩;exact⟨rfl,p,ib,o,rfl,h⟩
theorem kn_rho{O:List Int}(h:∀x∈O,1<=x)(x:Int):(kn O x).getD 0=Cq O x:=by
 unfold kn Cq;by_cases k:x∈O
 ·have:=h x k;rw[if_pos k,if_neg (by omega)];rfl
 ·rw[if_neg k];by_cases w:x=0;·rw[if_pos w];rfl
  ·rw[if_neg w];unfold CP;rcases Dn (λy=>decide (y=x)) O with⟨e,-⟩|⟨j,z,-,r,-,-,q,-⟩;·rw[e];rfl
   ·have:=of_decide_eq_true q;subst this;exact absurd (xQ r) k
theorem renL_len{O:List Int}{xs:List Fld}{vs:List Int}(h:xs.length=vs.length):(Bi O xs vs).length=xs.length:=by
 unfold Bi;rw[wq,wg];omega
theorem Mr{U:Mem}{p ib:Nat}{o l q:Sl}{xs:List Fld}{vs:List Int}(K:SrAt U d m p ib V (AJ d m) o)(hl:Ad V l 2 (xs.map Fld.row))(hq:Ad V q 1 (vs.map Am))(he:xs.length=vs.length)(hb:xs.length<=4096):
  Tri xE 159 #[pv p,l.v,q.v] V λe V'=>∃s:Sl,e=.returned (.slice s.p s.n s.c)/\Sx.Own V V' 3 1 s ((Bi (AJ d m).order xs vs).flatMap Am):=by
 refine x159 ?_;refine Tri.mono (c210 hq (by omega)) ?_;rintro _ V1 ⟨s,rfl,o1⟩;have S:=renL_len (O:=(AJ d m).order) he;obtain⟨R,T⟩:∃R,R=Bi (AJ d m).order xs vs:=⟨_,rfl⟩;rw[<-T]at S;refine⟨s,rfl,E3 xs.length (λi V2=>Sx.Own V V2 3 1 s ((R.take i++vs.drop i).flatMap Am)) (by rw[List.take_zero,wu];exact o1) ?_⟩;rintro i V2 J hi G hJ;have N:=hl.sub G.sub;have M:=hq.sub G.sub;have hn:=G.n_eq (λ_=>rfl) (by decide);rw[zw,wX,wY]at hn;refine⟨λZ=>?_,λhge=>?_⟩
 ·obtain⟨x,hxm,hx,-,L,hp,hz,X⟩:=N.get Z;have n2:=M.n_eq;obtain⟨y,hym,hy,C,hjl,hpy,hzy,A⟩:=M.get (i:=i) (by omega);have r:=Ht (O:=(AJ d m).order) hx hy;rw[<-T]at r;have Q:∀w:Int,R[i]?=some w->(R.take i++vs.drop i).set i w=R.take (i+1)++vs.drop (i+1):=λw hw=>by
   have I:(R.take i).length=i:=by rw[wX];omega
   rw[List.set_append_right _ _ (by omega),I,Nat.sub_self,C,List.set_cons_zero,wh,hw];simp
  refine⟨hp,hz,Z,_,_,X,c109.call ⟨_,rfl,λh2=>⟨N.succ Z,hJ L _ ?_⟩,λh2=>?_⟩⟩
  ·rw[if_pos (show Bo x.ty=true from h2)]at r;rw[<-Q y r];have D:(R.take i++vs.drop i)[i]?=some y:=by
    have I:(R.take i).length=i:=by rw[wX];omega
    rw[List.getElem?_append_right (by omega),I,Nat.sub_self,C];rfl
   have:(R.take i++vs.drop i).set i y=R.take i++vs.drop i:=by
    refine zx λk=>?_;rw[List.getElem?_set];split
    ·rename_i e;subst e;rw[D,if_pos (yv.1 D).1]
    ·rfl
   rw[this];exact G
  ·have hpl:Bo x.ty=false:=(vG _).mp h2;rw[hpl,if_neg (by decide)]at r;have E:=K.map.sub G.sub;refine⟨nn,nn,_,At (G.sub _ _ K.at_) 11 1 (by simp[srow]),hpy,hzy,by omega,_,A,Bl.key1 (k:=y) (keyInt vJ) vK Hl E ?_⟩;have Y:=kn_rho (λx hx=>(K.rng x hx).1) y;have go:∀w:Int,w=Cq (AJ d m).order y->¬s.p=none/\0<=(i:Int)/\(i:Int)<(s.n:Int)/\AQ (Aa s.p (((i:Int)).toNat*1)) 0 [uI w] V2 λV4=>IR ((i:Int)+1)/\J [uI ((i:Int)+1)] V4:=λw hw=>by
    have hrw:=G.rows (xs:=R.take i++vs.drop i) (λ_=>rfl) (by decide);have H:i<(R.take i++vs.drop i).length:=by rw[zw,wX,wY];omega
    obtain⟨g1,g2,g3,-⟩:=Oa hrw (yu H);refine⟨g1,g2,g3,?_⟩;rw[vM,wy];refine Own.store G (i:=i) (by rw[KF,wq];exact H) λV' ho _=>⟨N.succ Z,hJ L _ ?_⟩;rw[<-Q w (by rw[hw];exact r),KF,List.map_set,<-KF];exact ho
   cases hk:kn (AJ d m).order y with
   |none=>rw[hk]at Y;exact⟨0,rfl,go 0 Y⟩
   |some j=>rw[hk]at Y;exact⟨j,rfl,go j Y⟩
 ·have hdn:=(N.done hge).2;rw[wH (by omega),vN (by omega),xp,T]at G;exact⟨s,rfl,G⟩
end
section
variable{V:Mem}{d:Ds}{m:Mm}
theorem Own.growS{V0 V V':Mem}{e:TypeId}{sz:Nat}{s:Sl}{vs:List Value}(h:Sx.Own V0 V e sz s vs)(k:V.sub V'):Sx.Own V0 V' e sz s vs:=Own.moveB h (h.sub.trans k) λ_ _ _ w=>k _ _ w
theorem valid_hasT(h:hasT d=true):BX d=true:=by
 unfold hasT at h;simp only[zC]at h;exact h.1.1
theorem SrAt.grow{U V V':Mem}{p ib:Nat}{st:Sr}{o:Sl}(h:SrAt U d m p ib V st o)(k:V.sub V'):SrAt U d m p ib V' st o:=⟨k _ _ h.at_,Own.growS h.own k,h.map.sub k,h.cap,h.rng⟩
structure CanAt (d:Ds)(m:Mm)(V2 V:Mem)(s:Sl)(i:Nat)(nd:List Nd):Prop where
 len:nd.length=i
 at_:∀(j:Nat) n x,j<i->(AJ d m).order[j]?=some n->m.nodes[(n-1).toNat]?=some x->∃s,nd[j]?=some ⟨x.ty,s,Bi (AJ d m).order (Bg d x.ty) x.f⟩
 mem:∃W,V2.sub W/\Sx.Own W V 90 2 s (nd.flatMap Nd.row)/\∀n∈nd,Nd.Ok W n
theorem ren_in{O:List Int}{xs:List Fld}{vs:List Int}(q:O.length<=4096)(h:∀v∈vs,EM v):∀v∈Bi O xs vs,EM v:=λv w=>by
 unfold Bi at w;obtain⟨⟨a,b⟩,k,rfl⟩:=wc.1 w;have r:=h b (List.of_mem_zip k).2;show EM (if _ then b else Cq O b);split;·exact r
 ·unfold Cq;split;·exact⟨by omega,by omega⟩
  ·unfold CP;rcases Dn (λz=>decide (z=b)) O with⟨e,-⟩|⟨j,_,e,-,-,e2,-⟩;·rw[e];exact⟨by decide,by decide⟩
   ·rw[e];exact⟨by show(-9223372036854775808:Int)<=(j:Int)+1;omega,by show(j:Int)+1<=(9223372036854775807:Int);omega⟩
theorem canonicalC{U:Mem}{p ib:Nat}{o:Sl}(hvd:BX d=true)(hmv:AB d m=true)(hd:Ds.Ok V d)(hm:Mm.Ok V m)(I:SrAt U d m p ib V (AJ d m) o):Tri xE 118 #[pv p] V λe V'=>V.sub V'/\∃c:Mm,e=.returned (.agg #[c.gs.v,c.ns.v])/\Mm.Ok V' c/\IsCan d m c (AJ d m).order:=by
 refine x118 ?_;have R:=GG hmv;obtain⟨p1,p2,p3,p4,p5⟩:=DS hmv;obtain⟨l1,l2⟩:=lens12 hvd;have hcap:=R.cap;have hoR:Ad V o 1 ((AJ d m).order.map Am):=I.own.rows (λ_=>rfl) (by decide);refine⟨nn,nn,Hk,d.gs,I.cell 2 1 (by decide),nn,nn,Hk,m.gs,I.cell 8 1 (by decide),Tri.mono (Mr I hd.globals hm.globals (Hj.1 p4).1 (by omega)) ?_⟩;rintro _ V2 ⟨gs,rfl,hg⟩;have hs2:=I.grow hg.sub;refine⟨gs,rfl,nn,nn,o,hs2.cell 10 1 (by decide),?_⟩;have hgR:Ad V2 gs 1 ((Bi (AJ d m).order d.globals m.globals).map Am):=hg.rows (λ_=>rfl) (by decide);refine loop3u (mk:=λs:Sl=>.slice s.p s.n s.c) (mc:=λs:Sl=>.slice s.p s.n s.c) (b0:=gs) (c0:=⟨none,0,0⟩) AG AG (AJ d m).order.length (λi b c V3=>b=gs/\∃nd,CanAt d m V2 V3 c i nd) ⟨rfl,[],rfl,(λ_ _ _ h=>by omega),V2,Mem.sub.refl _,Own.nil (Mem.sub.refl _) _ _,(λ_ h=>by cases h)⟩ ?_;rintro i b s V3 J hi ⟨rfl,nd,C⟩ hJ;obtain⟨W,hW,r,hnd⟩:=C.mem;have M:=hW.trans r.sub;have Z:V.sub V3:=hg.sub.trans M;have Y:=hd.sub Z;have H:=hm.sub Z;have L:=hs2.grow M;have X:=hoR.sub Z;refine⟨λD=>?_,λhge=>?_⟩
 ·obtain⟨n,hnm,hn,-,hil,hp,hz,hrow⟩:=X.get D;have hr:=R.rng n hnm;obtain⟨k,rfl⟩:∃k:Nat,n=(k:Int)+1:=⟨(n-1).toNat,by omega⟩;have hnn:=H.nodes.n_eq;obtain⟨z,Q,hz',-,hl2,hpx,hzx,E⟩:=H.nodes.get (i:=k) (by omega);obtain⟨c1,c2⟩:=of_decide_eq_true (p3 z Q);obtain⟨j,T⟩:∃j:Nat,z.ty=(j:Int):=⟨_,(vL c1).symm⟩;have htn:=Y.types.n_eq;obtain⟨t,htm,ht,-,hl3,A,hzt,K⟩:=Y.types.get (i:=j) (by omega);have hI:IR ((k:Int)):=⟨by omega,by have:=(H.nodes.succ (i:=k) (by omega)).2;omega⟩;have hfo:=Fv ht T;have G:=p5 z Q;rw[hfo]at G;refine⟨hp,hz,D,_,hrow,nn,nn,Hk,m.ns,L.cell 9 1 (by decide),?_⟩;rw[show((k:Int)+1-1)=(k:Int)by omega];refine⟨hI,hpx,hzx,by omega,_,_,E,nn,nn,Hk,d.ts,L.cell 1 1 (by decide),?_⟩;rw[T];refine⟨A,hzt,by omega,Ak A,_,_,K,Tri.mono (Mr L (Y.typesOk t htm).fields (H.nodesOk z Q).rows (Hj.1 G).1 (by have:=l2 t htm;omega)) ?_⟩;rintro _ V4 ⟨fs,rfl,hf⟩;refine⟨fs,rfl,λtb htb=>?_⟩;have S:=Own.growS r hf.sub;obtain⟨nn,N⟩:∃nn:Nd,nn=⟨(j:Int),fs,Bi (AJ d m).order t.fields z.f⟩:=⟨_,rfl⟩;have hblk:Ad (V4.but s) fs 1 ((Bi (AJ d m).order t.fields z.f).map Am):=by
   have:Sx.Own (λ_=>none) (V4.but s) 3 1 fs ((Bi (AJ d m).order t.fields z.f).flatMap Am):=⟨(λ_ _ h=>by cases h),hf.len,by
    rcases hf.at_ with h|⟨g,cur,a,b,c,dd⟩;·exact .inl h
    ·exact .inr ⟨g,cur,a,rfl,Mem.but_at c (r.apartN b),dd⟩⟩
   exact this.rows (λ_=>rfl) (by decide)
  have hn2:Nd.Ok (V4.but s) nn:=by
   rw[N];exact⟨hblk,⟨by show -9223372036854775808<=(j:Int);omega,by show(j:Int)<=9223372036854775807;have:=(Y.types.succ (i:=j) (by omega)).2;omega⟩,ren_in (by omega) (H.nodesOk z Q).vals⟩
  have hlen:nd.length<=4096:=by rw[C.len];omega
  refine app48 (s:=s) (u:=⟨some ⟨tb,0,none⟩,1,1⟩) (xs:=nd) (ys:=[nn]) rfl rfl (S.but.new htb (.cells #[uI (j:Int),uL fs] 90 (0,0))) (Ad.cells (xs:=[nn]) (row:=Nd.row) As (by rw[N];simp[Nd.row,Sl.v]) (λ_=>rfl) rfl (by simp)) (by simp;omega) λo2 V5 ho2=>⟨o2,rfl,X.succ D,hJ hil _ _ _ ⟨rfl,nd++[nn],by rw[zw,C.len];rfl,λq w x hq hw hx=>?_,V4.but s,hW.trans S.sub_but,ho2,λw hw=>?_⟩⟩
  ·by_cases hqi:q<i
   ·obtain⟨sl,I⟩:=C.at_ q w x hqi hw hx;exact⟨sl,by rw[List.getElem?_append_left (by rw[C.len];exact hqi)];exact I⟩
   ·have:q=i:=by omega
    subst this;rw[hn]at hw;cases hw;rw[show((k:Int)+1-1).toNat=k by omega,hz']at hx;cases hx;refine⟨fs,?_⟩;rw[<-C.len,List.getElem?_concat_length,N,hfo,T]
  ·rcases wZ.1 hw with hw|hw;·exact(hnd w hw).sub S.sub_but
   ·rw[zO.1 hw];exact hn2
 ·have hdn:=(X.done hge).2;have hi':i=(AJ d m).order.length:=by omega
  refine⟨Z,⟨b,Bi (AJ d m).order d.globals m.globals,s,nd⟩,rfl,⟨hgR.sub M,ren_in (by omega) hm.gIn,r.rows (λ_=>rfl) (by decide),λn hn=>(hnd n hn).sub r.sub⟩,rfl,by rw[<-hi'];exact C.len,λj n x T hx=>C.at_ j n x (by rw[hi'];exact(yv.1 T).1) T hx⟩
theorem Of[Tab V](w:Ds.Ok V d)(hm:Mm.Ok V m):Tri xE 76 #[d.v,m.v] V λe V'=>V.sub V'/\
  ((AB d m=false/\e=.returned (.tuple #[.agg #[Ah.v,Ah.v],.int .i64 1]))∨(AB d m=true/\∃c:Mm,e=.returned (.tuple #[.agg #[c.gs.v,c.ns.v],.int .i64 0])/\Mm.Ok V' c/\IsCan d m c (AJ d m).order)):=by
 refine NK ?_;refine Tri.mono (H1 w hm) ?_;rintro _ V1 ⟨rfl,rfl⟩;refine⟨_,rfl,λh=>?_,λh=>⟨Mem.sub.refl _,.inl ⟨(vG _).mp h,rfl⟩⟩⟩;have h:AB d m=true:=h;have r:=valid_hasT (DS h).1;refine Tri.mono (c117 h w hm) ?_;rintro _ V2 ⟨p,ib,o,rfl,k⟩;refine⟨_,rfl,Tri.mono (canonicalC r h (w.sub k.own.sub) (hm.sub k.own.sub) k) ?_⟩;rintro _ J ⟨q,c,rfl,H,I⟩;exact⟨_,_,rfl,k.own.sub.trans q,.inr ⟨h,c,rfl,H,I⟩⟩
theorem H9{c:Mm}(w:AB d m=true)(I:IsCan d m c (AJ d m).order):c.plain=Bx d m:=by
 have R:=GG w;unfold Mm.plain Bx;rw[I.globals];refine Prod.ext rfl (zx λi=>?_);rw[y4,y4];cases k:(AJ d m).order[i]? with
 |none=>
  have:c.nodes[i]?=none:=by
   rw[vC]at k⊢;rw[I.len];exact k
  rw[this];rfl
 |some n=>
  have H:=R.rng n (xQ k);have r:=yu (l:=m.nodes) (i:=(n-1).toNat) (by omega);obtain⟨sl,q⟩:=I.at_ i n _ k r;rw[q];simp only[zJ];rw[r]
end
theorem loop3b{V:Mem}{β k:Type}{mk:β->Value}{mc:k->Value}{B:β->k->Int->Mem->(KZ)->Prop}{b0:β}{c0:k}(ib:∀x y,mk x=mk y->x=y)(G:∀x y,mc x=mc y->x=y)(len:Nat)(St:Nat->β->k->Mem->Prop)(N:St 0 b0 c0 V)
  (step:∀(i:Nat)(b:β)(c:k) V1 J,i<=len->St i b c V1->(i<len->∀b' w V2,St (i+1) b' w V2->J [mk b',mc w,.int .i64 ((i:Int)+1)] V2)->B b c (i:Int) V1 J):
  ∃(I:Nat->KZ)(Z:Nat),I Z [mk b0,mc c0,.int .i64 0] V/\∀n V1,∀b:β,∀c:k,∀v:Int,I n [mk b,mc c,.int .i64 v] V1->∀J:KZ,(∀m ys r,m<n->I m ys r->J ys r)->B b c v V1 J:=by
 refine⟨LI len λi xs V=>∃b c,xs=[mk b,mc c,.int .i64 i]/\St i b c V,len,LI.start ⟨b0,c0,rfl,N⟩,?_⟩;rintro n V1 b c v ⟨i,rfl,Y,b',w,H,Q⟩ J A;simp only[yE,Value.int.injEq,true_and,and_true]at H;obtain⟨M,L,rfl⟩:=H;cases ib _ _ M;cases G _ _ L;exact step i b c V1 J Y Q λq b' w V2 R=>LI.next A q ⟨b',w,rfl,R⟩
theorem bits_or{a x:Int}{k:Nat}(q:0<=a)(H:a<2^k)(J:0<=x)(G:a+x*2^k<9223372036854775808):Go.bits .or .i64 a (x*2^k)=a+x*2^k:=by
 obtain⟨m,rfl⟩:=zo q;obtain⟨n,rfl⟩:=zo J;have e:((n:Int)*2^k)=((n*2^k:Nat):Int):=by push_cast;rfl
 have w:m<2^k:=by
  have:((m:Nat):Int)<((2^k:Nat):Int):=by push_cast;exact H
  exact_mod_cast this
 rw[e]at G⊢;have N:m+n*2^k<9223372036854775808:=by omega
 have r:m|||n*2^k=m+n*2^k:=by
  rw[Nat.or_comm,Nat.mul_comm,<-Nat.two_pow_add_eq_or_of_lt w,Nat.add_comm]
 show yr.wrap (((vO 64 (m:Int)|||vO 64 ((n*2^k:Nat):Int)).toNat:Nat):Int)=_;rw[vP,vP,BitVec.toNat_or,vQ,vQ,vR (by omega),vR (by omega),r];rw[Eh ⟨by simp[vT,zQ,zR];omega,by simp[vU,zQ,zR];omega⟩]
 push_cast;rfl
theorem GenK.shlN{P:Program}{V:Mem}{t u:TypeId}{ty:Nat}{vals:Operand->Value}{x y:Operand}{n c:Int}(k:vals x=.int .i64 n)(r:vals y=.int .i64 c)(H:0<=c)(J:c<=64){q:Value->Mem->Prop}(G:q (.int .i64 (yr.wrap (n*2^c.toNat))) V):GenK P (.binOp .shl t x y u) ty vals V q:=by
 intro w hw;refine⟨_,w,V,?_,Aq.refl hw,G⟩;have:=shift_shl .i64 .i64 n c H J;unfold execOp;simp[k,r,binOp,this,eqGuard]
section
variable{V V0:Mem}{s:Sl}{b:List Int}
theorem inj_u32:∀x y:Int,(xw .u32 x)=.int .u32 y->x=y:=λx y h=>by cases h;rfl
theorem c123(h:Bt V s b):PP 123 [s.v] V (.int .u32 (sumF b)):=by
 refine x123 ?_;refine Cz (mk:=.int .u32) (b0:=2166136261) inj_u32 b.length (λi a V1=>V1=V/\a=sumF (b.take i)) ⟨rfl,rfl⟩ ?_;rintro i a V1 J Q ⟨rfl,rfl⟩ H;refine⟨λk=>?_,λr=>?_⟩
 ·obtain⟨x,hm,G,-,q,N,Z,w⟩:=h.rows.get k;have A:=h.b x hm;refine⟨N,Z,k,x,w,⟨by simp[vT,zQ,zR];omega,by simp[vU,zQ,zR];omega⟩,h.rows.succ k,H q _ _ ⟨rfl,?_⟩⟩;rw[wh,G];simp[sumF,vH]
 ·have Y:=(h.rows.done r).2;rw[wH Y];exact⟨rfl,rfl⟩
def Fa(b:List Int):Nat->Int
 |0=>0
 |i+1=>Fa b i+b.getD i 0*2^(8*i)
theorem numTo_4(b:List Int):Fa b 4=Co b:=by simp[Fa,Co]
theorem KT{b:List Int}(h:An b):∀i,0<=Fa b i/\Fa b i<2^(8*i)
 |0=>by simp[Fa]
 |i+1=>by
  have w:=KT h i;have k:=getD_b h i;have e:(2:Int)^(8*(i+1))=2^(8*i)*256:=by rw[Nat.mul_add,Int.pow_add];rfl
  have r:(0:Int)<2^(8*i):=Int.pow_pos (by decide);rw[Fa,e];generalize(2:Int)^(8*i)=p at w r⊢;generalize b.getD i 0=x at k⊢;have q:0<=x*p:=Int.mul_nonneg k.1 (by omega);have H:x*p<=255*p:=Int.mul_le_mul_of_nonneg_right (by omega) (by omega);omega
theorem c122(h:Bt V s b)(M:4<=b.length):PP 122 [s.v] V (.int .i64 (Co b)):=by
 refine x122 ?_;refine Cz (mk:=.int .i64) (b0:=0) Ax 4 (λi a V1=>V1=V/\a=Fa b i) ⟨rfl,rfl⟩ ?_;rintro i a V1 J L ⟨rfl,rfl⟩ Z;refine⟨λw=>?_,λr=>?_⟩
 ·have w:(i:Int)<4:=w;obtain⟨x,hm,Y,-,-,Q,A,q⟩:=h.rows.get (i:=i) (by rw[h.n];omega);have G:=h.b x hm;have k:=KT h.b i;have H:=KT h.b (i+1);have N:b.getD i 0=x:=by rw[List.getD_eq_getElem?_getD,Y];rfl
  have hw:(2:Int)^(8*(i+1))<=4294967296:=by
   match i,w with
   |0,_|1,_|2,_|3,_=>decide
   |_+4,h=>omega
  have I:0<=x*2^(8*i):=Int.mul_nonneg G.1 (Int.le_of_lt (Int.pow_pos (by decide)));rw[Fa,N]at H;refine⟨Q,A,by rw[h.n];omega,x,q,⟨by omega,by omega⟩,⟨by omega,by omega⟩,?_⟩;refine GenK.shlN (n:=x) (c:=8*(i:Int)) rfl rfl (by omega) (by omega) ⟨_,rfl,⟨by omega,by omega⟩,Z (by omega) _ _ ⟨rfl,?_⟩⟩;rw[show(8*(i:Int)).toNat=8*i by omega,Eh ⟨by simp[vT,zQ,zR];omega,by simp[vU,zQ,zR];omega⟩,bits_or k.1 k.2 G.1 (by omega),Fa,N]
 ·have r:¬(i:Int)<4:=r;obtain rfl:i=4:=by omega
  rw[numTo_4];exact⟨rfl,rfl⟩
theorem GI(n:Int):xF .u8 n=n % 256:=by
 simp[xF,zQ,zR]
theorem oneB{α:Type}{t e sz:Nat}{row:α->List Value}(A:AppP t e sz row){V0 V:Mem}{b:Nat}{s:Sl}{xs:List α}{x:α}(o:Sx.Own V0 V e sz s (xs.flatMap row))(k:V b=none)(w:xs.length+1<=2147483648){ty:Nat}{y z:Operand}{vals:Operand->Value}(r:vals y=.slice s.p s.n s.c)(q:vals z=.slice (sa b) 1 1)(H:∀x,(row x).length=sz){Q:Value->Mem->Prop}(J:∀s' V',Sx.Own V0 V' e sz s' ((xs++[x]).flatMap row)->Q (.slice s'.p s'.n s'.c) V'):
  GenK xE (.call {callee:=.builtin .append,args:=#[y,z],argTypes:=#[t,t]}) ty vals (V.set b (.cells (row x).toArray e (0,0))) Q:=
 A (s:=s) (u:=⟨some ⟨b,0,none⟩,1,1⟩) (xs:=xs) (ys:=[x]) r q (o.new k _) (Ad.cells (xs:=[x]) (row:=row) As (by simp) H (by simp) (by simp)) (by simpa using w) J
def shrN(n:Int):Nat->Int
 |0=>n
 |i+1=>shrN n i/256
theorem shrN_put(n:Int):((zB 4).map λi=>shrN n i % 256)=put4 n:=by
 simp only[zB,List.range.loop,List.map,shrN,put4];simp only[yE,and_true,true_and];omega
theorem c139(o:Sx.Own V0 V 5 1 s (b.flatMap AS))(Y:b.length<=2000000){n:Int}(G:K.inR .i64 n):Tri xE 139 #[s.v,.int .i64 n] V λe V'=>∃s':Sl,e=.returned s'.v/\Sx.Own V0 V' 5 1 s' ((b++put4 n).flatMap AS):=by
 refine x139 ?_;refine loop3b (mk:=λs:Sl=>.slice s.p s.n s.c) (mc:=.int .i64) AG Ax 4 (λi u m V1=>Sx.Own V0 V1 5 1 u ((b++(zB i).map λi=>shrN n i % 256).flatMap AS)/\m=shrN n i/\K.inR .i64 m) ⟨by simpa using o,rfl,G⟩ ?_;rintro i u m V1 J Q ⟨r,rfl,hm⟩ N;refine⟨λk=>λA q=>?_,λw=>?_⟩
 ·have k:(i:Int)<4:=k;refine oneB Ek (x:=xF .u8 (shrN n i)) r q (by simp;omega) rfl rfl (λ_=>rfl) λZ I H=>⟨Z,rfl,?_⟩;refine GenK.shr (n:=shrN n i) (c:=8) rfl rfl (by decide) ⟨_,rfl,⟨by omega,by omega⟩,N (by omega) _ _ _ ⟨?_,?_,?_⟩⟩
  ·rw[GI]at H;rw[List.range_succ,yP,<-zH];exact H
  ·exact vV _ (by decide)
  ·rw[show((shrN n i).fdiv (2^min (8:Int).toNat yr.bits))=shrN n i/256 from vV _ (by decide)];obtain⟨M,L⟩:=hm;exact⟨by omega,by omega⟩
 ·have w:¬(i:Int)<4:=w;obtain rfl:i=4:=by omega
  rw[shrN_put]at r;exact⟨u,rfl,r⟩
end
def BL(s:Sl):List Value:=[s.v]
structure Ls (V:Mem)(s:Sl)(xs:List (List Int)):Prop where
 at_:∃ss:List Sl,Ad V s 1 (ss.map BL)/\ss.length=xs.length/\∀(i:Nat) u x,ss[i]?=some u->xs[i]?=some x->Bt V u x
theorem Ls.sub{V V':Mem}{s:Sl}{xs:List (List Int)}(h:Ls V s xs)(k:V.sub V'):Ls V' s xs:=by
 obtain⟨ss,w,r,q⟩:=h.at_;exact⟨ss,w.sub k,r,λi u x a b=>(q i u x a b).sub k⟩
theorem Ls.n{V:Mem}{s:Sl}{xs:List (List Int)}(h:Ls V s xs):s.n=xs.length:=by
 obtain⟨ss,k,w,r⟩:=h.at_;rw[k.n_eq,w]
theorem Ls.get{V:Mem}{s:Sl}{xs:List (List Int)}(h:Ls V s xs){i:Nat}{x:List Int}(hi:xs[i]?=some x):∃u:Sl,¬s.p=none/\V.rowp s.p (i*1) 1=some [u.v]/\Bt V u x:=by
 obtain⟨ss,w,G,r⟩:=h.at_;have q:=(yv.1 hi).1;obtain⟨u,-,H,-,-,J,-,k⟩:=w.get (i:=i) (by rw[w.n_eq];omega);exact⟨u,J,k,r i u x H hi⟩
end Go.Proofs
namespace Go.Proofs
open Go Go.Sx
theorem KU{page:Nat}:∀{l:List (Int×List Int)},(∀x∈l,x.2.length=page)->(l.flatMap Dt).length=l.length*(4+page)
 |[],_=>by simp
 |x::l,h=>by
  rw[yc,zw,KU λy k=>h y (za _ k),Dt,zw,DV,h x zb,zy,vW];omega
theorem flat_drop{page:Nat}:∀{l:List (Int×List Int)},(∀x∈l,x.2.length=page)->∀i,(l.flatMap Dt).drop (i*(4+page))=(l.drop i).flatMap Dt
 |[],_,i=>by simp
 |x::l,h,0=>by simp
 |x::l,h,i+1=>by
  have k:(Dt x).length=4+page:=by rw[Dt,zw,DV,h x zb]
  rw[List.drop_succ_cons,<-flat_drop (λy w=>h y (za _ w)) i,yc,List.drop_append,k,vW,vN (by omega),vX];congr 1;omega
theorem recB_len{page:Nat}{l:List (Int×List Int)}(h:∀x∈l,x.2.length=page):(recB l).length=4+l.length*(4+page):=by
 rw[recB,zw,DV,KU h]
theorem Js{page:Nat}{l:List (Int×List Int)}(h:∀x∈l,x.2.length=page):(AF l).length=4+l.length*(4+page)+4:=by
 rw[AF,zw,DV,recB_len h]
theorem pgAt_rec{page:Nat}{l:List (Int×List Int)}(h:∀x∈l,x.2.length=page)(r:List Int){i:Nat}(hi:i<l.length)(w:0<=l[i].1)(q:l[i].1<4294967296):pgAt page (recB l++r) i=l[i]:=by
 have e:(recB l++r).drop (4+i*(4+page))=put4 l[i].1++(l[i].2++((l.drop (i+1)).flatMap Dt++r)):=by
  have k:i*(4+page)<=(l.flatMap Dt).length:=by
   rw[KU h];exact y5 _ (by omega)
  rw[recB,zH,<-vY,wx (DV _),vZ k,flat_drop h,List.drop_eq_getElem_cons hi,yc,Dt];simp only[zH]
 unfold pgAt;rw[<-vY (i:=4),e,Jl w q,wx (DV _),wv (h _ (yo hi))]
theorem Ia{l:List (Int×List Int)}(h:okPg l=true):(∀x∈l,0<=x.1/\x.1<1000)/\(l.map (·.1)).Nodup:=by
 unfold okPg at h;simp only[zC,List.all_eq_true,decide_eq_true_eq]at h;exact h
theorem parse_rec{page:Nat}{l:List (Int×List Int)}(Q:l.length<=1000)(G:okPg l=true)(h:∀x∈l,x.2.length=page)(r:List Int):BH page (AF l++r)=some (l,(AF l).length):=by
 have H:AF l++r=recB l++(put4 (sumF (recB l))++r):=by rw[AF,zH]
 have k:=Js h;have J:=recB_len h;have w:Co (AF l++r)=l.length:=by
  rw[H,recB,zH];exact Jl (by omega) (by omega) _
 have N:=sumF_in (recB l);unfold BH;simp only[w,vM];rw[if_neg (by rw[zw,k];omega),if_neg ?_]
 ·have e:(zB l.length).map (pgAt page (AF l++r))=l:=by
   refine wk (by simp) λi q Z=>?_;rw[List.getElem_map,List.getElem_range,H];have Y:=(Ia G).1 _ (yo Z);exact pgAt_rec h _ Z Y.1 (by omega)
  rw[e,if_pos G,k]
 ·rw[H,<-J,List.take_left,List.drop_left,Jl N.1 N.2];rintro(q|q|q);·omega
  ·rw[zw,zw,DV]at q;omega
  ·exact q rfl
theorem parse_torn{page:Nat}{l:List (Int×List Int)}(q:l.length<=1000)(h:∀x∈l,x.2.length=page){k:Nat}(H:k<(AF l).length):BH page ((AF l).take k)=none:=by
 have r:=Js h;have J:((AF l).take k).length=k:=by rw[wX];omega
 unfold BH;simp only;by_cases G:k<8;·rw[if_pos (by omega)]
 rw[if_neg (by omega)];have w:Co ((AF l).take k)=l.length:=by
  have e:(AF l).take k=put4 l.length++((AF l).take k).drop 4:=by
   have:=vz 4 ((AF l).take k);rw[List.take_take,show min 4 k=4 by omega]at this;rw[<-this];congr 1
  rw[e];exact Jl (by omega) (by omega) _
 rw[if_pos];right;left;rw[w,vM];omega
theorem parse_ext{page:Nat}{c r r':List Int}{l:List (Int×List Int)}(h:BH page (c++r)=some (l,c.length)):BH page (c++r')=some (l,c.length):=by
 have Q:=(F7 h).1;have k:∀x,Co (c++x)=Co c:=λx=>Jm (by omega) x;unfold BH at h⊢;simp only[k]at h⊢;generalize(Co c).toNat=n at h⊢;split at h;·cases h
 rename_i A;split at h;·cases h
 rename_i q;split at h
 ·rename_i G;simp only[zF,Prod.mk.injEq]at h;obtain⟨N,Z⟩:=h;have Y:∀x i,i<n->pgAt page (c++x) i=pgAt page c i:=λx i H=>by
   have J:(i+1)*(4+page)<=n*(4+page):=y5 _ H;rw[vW]at J;unfold pgAt;rw[vZ (by omega),vZ (by omega),Jm (by rw[wY];omega),vy (by rw[wY];omega)]
  have hm:∀x,(zB n).map (pgAt page (c++x))=(zB n).map (pgAt page c):=λx=>List.map_congr_left λi H=>Y x i (yY.1 H);rw[hm]at N G;simp only[not_or,Nat.not_lt,Classical.not_not]at q;rw[if_neg (by rw[zw];omega),if_neg ?_,hm,if_pos G,N,Z];rw[vy (by omega),vZ (by omega),Jm (by rw[wY];omega)];rw[vy (by omega),vZ (by omega),Jm (by rw[wY];omega)]at q;rintro(w|w|w);·omega
  ·rw[zw]at w;omega
  ·exact w q.2.2
 ·cases h
theorem Ib(page:Nat):Ao page []=([],0):=by
 rw[Fy];simp[BH]
theorem KV{page:Nat}{b:List Int}(h:BH page b=none):Ao page b=([],0):=by
 rw[Fy,h]
theorem Jt(page:Nat):∀(n:Nat)(b r:List Int),b.length<=n->Ao page (b.take (Ao page b).2++r)=((Ao page b).1++(Ao page r).1,(Ao page b).2+(Ao page r).2)
 |n,b,r,h=>by
  cases k:BH page b with
  |none=>rw[KV k];simp
  |some x=>
   obtain⟨l,s⟩:=x;have G:=F7 k;cases n with
   |zero=>omega
   |succ n=>
    have H:=Jt page n (b.drop s) r (by rw[wY];omega);have e:Ao page b=(l::(Ao page (b.drop s)).1,s+(Ao page (b.drop s)).2):=by rw[Fy,k]
    have q:(b.take s).length=s:=by rw[wX];omega
    have J:b.take (s+(Ao page (b.drop s)).2)++r=b.take s++((b.drop s).take (Ao page (b.drop s)).2++r):=by
     rw[List.take_add,zH]
    have w:BH page (b.take s++((b.drop s).take (Ao page (b.drop s)).2++r))=some (l,(b.take s).length):=by
     refine parse_ext (r:=b.drop s) ?_;rw[vz,q,k]
    rw[e];simp only;rw[J,Fy,w];simp only[wx,H,q];simp[Nat.add_assoc]
end Go.Proofs
namespace Go.Proofs
open Go Go.Sx
def BD(n:Int):List Int:=[n/256 % 256,n % 256]
structure Dir where
 sizes:List Int
 all:List (Int×List Int)
def CR(v:Int×List Int):List Int:=BD v.1++v.2.flatMap BD
def BE(x:Dir):List Int:=[104,119]++BD x.sizes.length++BD x.all.length++x.sizes.flatMap BD++x.all.flatMap CR
def AT:List Int×Bool->Int×(List Int×Bool)
 |(a::b::r,true)=>(a*256+b,(r,true))
 |(r,_)=>(0,(r,false))
def BT:Nat->List Int×Bool->List Int×(List Int×Bool)
 |0,s=>([],s)
 |n+1,s=>let x:=AT s;let y:=BT n x.2;(x.1::y.1,y.2)
def Df(page:Nat):Nat->List Int×Bool->Option (List (Int×List Int)×(List Int×Bool))
 |0,s=>some ([],s)
 |n+1,s=>
  let x:=AT s
  if 12000<x.1 then none else
  let y:=BT ((x.1.toNat+page-1)/page) x.2
  match Df page n y.2 with
  |none=>none
  |some z=>some ((x.1,y.1)::z.1,z.2)
def EP(page:Nat)(s:List Int):Option Dir:=
 let h:=AT (s,true)
 if h.1≠26743 then none else
 let n:=AT h.2;let c:=AT n.2
 if 1000<n.1∨30<c.1 then none else
 let l:=BT n.1.toNat c.2
 match Df page c.1.toNat l.2 with
 |none=>none
 |some v=>if v.2.2 then some ⟨l.1,v.1⟩else none
def in16(n:Int):Prop:=0<=n/\n<65536
theorem Ic{n:Int}(h:in16 n)(r:List Int):AT (BD n++r,true)=(n,(r,true)):=by
 have:n/256 % 256*256+n % 256=n:=by unfold in16 at h;omega
 simp only[BD,List.cons_append,vX,AT,this]
theorem rdL_put:∀(l:List Int),(∀x∈l,in16 x)->∀r,BT l.length (l.flatMap BD++r,true)=(l,(r,true))
 |[],_,r=>rfl
 |x::l,h,r=>by
  rw[zy,BT,yc,zH,Ic (h x zb)];simp only[rdL_put l λy k=>h y (za _ k)]
theorem rdV_put{page:Nat}:∀(l:List (Int×List Int)),(∀x∈l,in16 x.1/\x.1<=12000/\x.2.length=(x.1.toNat+page-1)/page/\∀y∈x.2,in16 y)->∀r,Df page l.length (l.flatMap CR++r,true)=some (l,(r,true))
 |[],_,r=>rfl
 |x::l,h,r=>by
  obtain⟨k,J,w,q⟩:=h x zb;rw[zy,Df,yc,CR,zH,zH,Ic k];simp only;rw[if_neg (by omega),<-w,rdL_put _ q];simp only[rdV_put l λy H=>h y (za _ H)]
structure DirOk (page:Nat)(x:Dir):Prop where
 n:x.sizes.length<=1000
 c:x.all.length<=30
 s:∀y∈x.sizes,in16 y
 v:∀y∈x.all,in16 y.1/\y.1<=12000/\y.2.length=(y.1.toNat+page-1)/page/\∀z∈y.2,in16 z
theorem open_dir{page:Nat}{x:Dir}(h:DirOk page x)(r:List Int):EP page (BE x++r)=some x:=by
 have w:=h.n;have q:=h.c;unfold EP BE;have k:([104,119]:List Int)=BD 26743:=rfl;simp only[zH];rw[k,Ic ⟨by decide,by decide⟩];simp only[ne_eq,not_true_eq_false,if_false];rw[Ic ⟨by omega,by omega⟩];simp only;rw[Ic ⟨by omega,by omega⟩];simp only[vM];rw[if_neg (by omega),rdL_put _ h.s];simp only;rw[rdV_put _ h.v];simp
def F8(n:Nat):Nat->List Int->List (List Int)
 |0,_=>[]
 |f+1,b=>if b=[]then[]else b.take n::F8 n f (b.drop n)
def AK(n:Nat)(b:List Int):List (List Int):=F8 n b.length b
end Go.Proofs
