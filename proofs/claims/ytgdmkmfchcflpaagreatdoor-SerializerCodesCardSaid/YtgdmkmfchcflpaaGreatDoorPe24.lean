/- Part 24: no statement of the seat is proved here. -/
import Derived.Test.YtgdmkmfchcflpaaGreatDoorPe19
set_option linter.unusedVariables false
set_option linter.unusedSimpArgs false
open Go.Proofs.Tryz renaming prog->xE,underlying9->xW,underlying97->wG
open List renaming nodup_cons->yU,mem_cons_self->zb,mem_cons_of_mem->za,mem_map->wc,find?_isSome->tF,mem_map_of_mem->vo,getElem?_eq_getElem->yu,take_add_one->wh,take_of_length_le->wH
open Go.Result renaming andThen_ok->zL
open Classical renaming propDecidable->tG
namespace Go.Proofs
open Go Go.Sx
set_option maxRecDepth 100000
section
variable{V:Mem}{R:RP}
theorem Ph{a:KB}{b c d g i j k l o:Sl}(h:TB 44 #[uD a b c d g i j k] V λp V1=>Br (p=true) (TB 45 #[uD a b c d g i j k,uA #[uL l,uL o]] V1 λq V2=>Br (q=true) (TL 46 #[uD a b c d g i j k,uA #[uL l,uL o]] V2 λr f=>R (rT #[uL r,uI 0]) f) (R (rT #[z0,uI 1]) V2)) (R (rT #[z0,uI 1]) V1)):TT 17 #[uD a b c d g i j k,uA #[uL l,uL o]] V R:=Ae Tryz.func17 h
theorem Pj{a:KB}{b c d g i j k l:Sl}{o:Int}(h:TB 44 #[uD a b c d g i j k] V λp V1=>Br (p=true) (Af [uS a,uL b,uL c,uL d,uL g,uL i,uL j,uL k] 30 V1 λq V2=>TB 36 #[uL l,.func (.func 53) #[] #[uP (Aa q 0)]] V2 λr t=>Br (r=true) (R (rT #[uI 0,uI 1]) t) (Br (o<1) (R (rT #[uI 0,uI 2]) t) (Br (65536<o) (R (rT #[uI 0,uI 2]) t) (GenK xE (.makeMap 97 none) 97 (gv []) t λx Y=>∃s,x=uM s/\Lp [uI 0] Y λI n f=>∀u,I n [uI u] f->∀J:LMP,Nx I n J->Br (u<(l.n:Int)) (Ix l u (∃y z,f.rowp l.p (u.toNat*2) 2=some [uL y,uL z]/\∃A B C D F G H L,f.rowp q ((0:Int).toNat*1) 8=some [uS A,uL B,uL C,uL D,uL F,uL G,uL H,uL L]/\TL 46 #[uD A B C D F G H L,uA #[uL y,uL z]] f λM e=>TL 54 #[uL M,uI o] e λN W=>Lp [uI 0] W λI n w=>∀O,I n [uI O] w->∀Z:LMP,Nx I n Z->Br (O<(N.n:Int)) (Ix N O (∃P,w.rowp N.p (O.toNat*1) 1=some [uL P]/\GenK xE (.convert 34 9 (.tmp 45)) 9 (gv [(45,uL P)]) w λx X=>∃Q,x=uS Q/\BQ xE 97 (uM s) (uS Q) (.bool true) X λv=>IR (O+1)/\Z [uI (O+1)] v)) (IR (u+1)/\J [uI (u+1)] w))) (GenK xE (.call {callee:=(.builtin .len),args:=#[(.tmp 49)],argTypes:=#[97]}) 3 (gv [(49,uM s)]) f λx e=>∃y,x=uI y/\R (rT #[uI y,uI 0]) e))))) (R (rT #[uI 0,uI 1]) V1)):TT 23 #[uD a b c d g i j k,uL l,uI o] V R:=Ae Tryz.func23 h
theorem Pk{a b:Sl}{c:Option Addr}(h:∃d g i j k l o p,V.rowp c ((0:Int).toNat*1) 8=some [uS d,uL g,uL i,uL j,uL k,uL l,uL o,uL p]/\TB 45 #[uD d g i j k l o p,uA #[uL a,uL b]] V λq V1=>R (rV (uB (!q))) V1):TT 53 #[uA #[uL a,uL b],uP c] V R:=Ae Tryz.func53 h
end
end Go.Proofs
namespace Go.Sx
open Go
open Classical
section
variable{P:Program}
theorem nd_le{α:Type}:∀(S U:List α),S.Nodup->(∀x∈S,x∈U)->S.length<=U.length
 |[],U,_,_=>Nat.zero_le _
 |a::S,U,t,h=>by
  obtain⟨u,w⟩:=yU.1 t;have g:=h a zb;have z:=nd_le S (U.erase a) w λx f=>by
   have k:x≠a:=by rintro rfl;exact u f
   exact(List.mem_erase_of_ne k).2 (h x (za _ f))
  rw[List.length_erase_of_mem g]at z;have:=List.length_pos_of_mem g;rw[List.length_cons];omega
theorem keys_lenV{α:Type}{enc:α->Value}(hi:∀a b,enc a=enc b->a=b)(es:List MapEntry)(c:List α)(z:∀e∈es,∃a,e.key=enc a)(j:es.Pairwise (λe f=>e.key≠f.key))(r:c.Nodup)(i:∀a,(Ec es (enc a)).isSome=decide (a∈c)):es.length=c.length:=by
 have q:∃k:List α,k.map enc=es.map (·.key):=by
  clear j i;induction es with
  |nil=>exact⟨[],rfl⟩
  |cons e es o=>
   obtain⟨k,h⟩:=o λx u=>z x (by simp[u]);obtain⟨a,Z⟩:=z e (by simp);exact⟨a::k,by simp_all⟩
 obtain⟨k,t⟩:=q;have y:k.Nodup:=by
  have n:(es.map (·.key)).Pairwise (·≠·):=pair_keys.1 j;rw[<-t]at n;rw[List.nodup_iff_pairwise_ne];exact(List.pairwise_map.1 n).imp λh e=>h (by rw[e])
 have g:∀a,a∈k↔a∈c:=λa=>by
  have w:=i a;have v:a∈k↔∃e∈es,e.key=enc a:=by
   have:enc a∈k.map enc↔enc a∈es.map (·.key):=by rw[t]
   rw[wc,wc]at this;constructor
   ·intro h;exact this.1 ⟨a,h,rfl⟩
   ·intro h;obtain⟨b,H,e⟩:=this.2 h;rw[<-hi _ _ e];exact H
  rw[v];unfold Ec at w;rw[Option.isSome_map]at w;constructor
  ·rintro⟨e,J,z⟩;have:decide (a∈c)=true:=by rw[<-w,tF];exact⟨e,J,decide_eq_true z⟩
   exact of_decide_eq_true this
  ·intro h;rw[decide_eq_true h,tF]at w;obtain⟨e,G,N⟩:=w;exact⟨e,G,of_decide_eq_true N⟩
 have Y:es.length=k.length:=by
  have:=congrArg List.length t;simpa using this.symm
 have W:=nd_le _ _ y λx u=>(g x).1 u;have Q:=nd_le _ _ r λx u=>(g x).2 u;omega
theorem GenK.lenV{α:Type}{enc:α->Value}{V:Mem}{b:Nat}{f:α->Option Value}{c:List α}{t kt k ty:TypeId}(hi:∀a b,enc a=enc b->a=b)(g:P.underlying t=some (.map kt k))(hm:BJ enc V b f)(u:c.Nodup)(z:∀a,(f a).isSome=decide (a∈c)){x:Operand}{vals:Operand->Value}(y:vals x=.map (some b)){q:Value->Mem->Prop}(j:q (.int .i64 c.length) V):
  GenK P (.call {callee:=.builtin .len,args:=#[x],argTypes:=#[t]}) ty vals V q:=by
 intro w hw;obtain⟨es,e,i,n,r,o⟩:=hm.at_;have h:=keys_lenV hi es.toList c n r u λa=>by rw[o a];exact z a
 refine⟨_,w,V,?_,Aq.refl hw,j⟩;unfold execOp;simp only[resolve,invoke,builtin,Sem.run_bind,Sem.run_pure,zL,List.map_toArray,List.map_cons,List.map_nil,y,Builtin.len_];simp only[List.getElem?_toArray,List.getElem?_cons_zero,Sem.run_bind,run_underlying g,zL,MapKept.run_getObj_map (hw _ _ i),Sem.run_pure];grind[goInt]
end
end Go.Sx
namespace Go.Proofs
open Go Go.Sx
attribute [local irreducible] Go.Sx.Tri
end Go.Proofs
namespace Go.Proofs
open Go Go.Sx
theorem chunks_b{n:Nat}(h:0<n){b:List Int}(k:An b):∀c∈AK n b,An c:=λc g x f=>k x (by rw[<-Mx h b];exact List.mem_flatten.2 ⟨c,g,f⟩)
end Go.Proofs
namespace Go.Proofs
open Go Go.Sx
attribute [local irreducible] Go.Sx.Tri
section
variable{V V0:Mem}{d:Ds}{m:Mm}{s:Sl}{b:List Int}
theorem M0[Tab V](t:Ds.Ok V d)(hm:Mm.Ok V m):Tri xE 17 #[d.v,m.v] V λe V'=>V.sub V'/\if AL d/\AB d m=true then ∃s:Sl,e=.returned (.tuple #[s.v,.int .i64 0])/\Bt V' s (Ai d m)else e=.returned (.tuple #[Ah.v,.int .i64 1]):=by
 obtain⟨R,f⟩:∃R:Ending->Mem->Prop,R=λe V'=>V.sub V'/\if AL d/\AB d m=true then ∃s:Sl,e=.returned (.tuple #[s.v,.int .i64 0])/\Bt V' s (Ai d m)else e=.returned (.tuple #[Ah.v,.int .i64 1]):=⟨_,rfl⟩
 rw[<-f];refine Ph ?_;refine(Ij t).call ⟨_,rfl,λk=>?_,λk=>?_⟩
 ·have k:AL d:=of_decide_eq_true k;refine(H1 t hm).call ⟨_,rfl,λg=>?_,λg=>?_⟩
  ·have g:AB d m=true:=g;refine Tri.mono (JF ⟨k.1,k.2,g⟩ t hm) ?_;rintro _ V1 ⟨u,s,rfl,w⟩;refine⟨s,rfl,?_⟩;rw[f];dsimp only;rw[if_pos ⟨k,g⟩];exact⟨u,s,rfl,w⟩
  ·rw[f];dsimp only;rw[if_neg λh=>g h.2];exact⟨Mem.sub.refl V,rfl⟩
 ·rw[f];dsimp only;rw[if_neg λh=>k (decide_eq_true h.1)];exact⟨Mem.sub.refl V,rfl⟩
end
section
variable{V:Mem}{d:Ds}{m:Mm}{l:Sl}{ms:List Mm}{p:Nat}
theorem Pl[Tab V](h:Ds.Ok V d)(hm:Mm.Ok V m)(k:V p=some (.cells d.row.toArray 30 (0,0))):PP 53 [m.v,pv p] V (.bool (!AB d m)):=by
 refine Pk ?_;refine⟨d.name,d.ts,d.gs,d.ps,d.ms,d.is,d.qs,d.bs,At k 0 8 (by simp[Ds.row]),?_⟩;exact(H1 h hm).call ⟨_,rfl,rfl,rfl⟩
theorem nd_map{C:List (List Int)}(g:C.Nodup)(f:∀c∈C,An c):(C.map Cf).Nodup:=by
 induction C with
 |nil=>simp
 |cons c C t=>
  rw[yU]at g;rw[List.map_cons,yU];refine⟨λh=>?_,t g.2 λx k=>f x (za _ k)⟩;obtain⟨x,k,u⟩:=wc.1 h;have:=bsOf_inj (f x (za _ k)) (f c zb) u;exact g.1 (this▸k)
open Classical in
noncomputable def seenC(C:List (List Int))(x:KB):Option Value:=if x∈C.map Cf then some (.bool true)else none
theorem seenC_add(C:List (List Int))(c:List Int)(x:KB):@ite _ (x=Cf c) (tG _) (some (Value.bool true)) (seenC C x)=seenC (A8 C c) x:=by
 unfold seenC A8;by_cases k:c∈C
 ·rw[if_pos k];by_cases h:x=Cf c;·rw[if_pos h,if_pos (by rw[h];exact vo k)]
  ·rw[if_neg h]
 ·rw[if_neg k];by_cases h:x=Cf c;·rw[if_pos h,if_pos (by rw[h];exact vo (List.mem_append_right _ zb))]
  ·rw[if_neg h];simp[h]
theorem fold_snoc(C:List (List Int))(l:List (List Int))(c:List Int):(l++[c]).foldl A8 C=A8 (l.foldl A8 C) c:=by rw[List.foldl_append];rfl
theorem M1[hT:Tab V](hd:Ds.Ok V d)(hl:CT V l ms){size:Int}:PP 23 [d.v,l.v,.int .i64 size] V (if AL d/\Cr d ms=true then(if size<1∨65536<size then .tuple #[.int .i64 0,.int .i64 2]else .tuple #[.int .i64 ((Aw size.toNat (ms.map (Ai d))).length:Nat),.int .i64 0])else .tuple #[.int .i64 0,.int .i64 1]):=by
 obtain⟨v,f⟩:∃v:Value,v=if AL d/\Cr d ms=true then(if size<1∨65536<size then .tuple #[.int .i64 0,.int .i64 2]else .tuple #[.int .i64 ((Aw size.toNat (ms.map (Ai d))).length:Nat),.int .i64 0])else .tuple #[.int .i64 0,.int .i64 1]:=⟨_,rfl⟩
 rw[<-f];refine AP.mk (Pj ?_);refine(Ij hd).call ⟨_,rfl,λh1=>?_,λh1=>⟨by rw[f,if_neg λh=>h1 (decide_eq_true h.1)],Mem.sub.refl V⟩⟩;have r:AL d:=of_decide_eq_true h1;intro b hb;have e0:Aa (some (⟨b,0,none⟩:Addr)) 0=some ⟨b,0,none⟩:=by simp[Aa,Addr.add]
 simp only[e0];generalize L:V.set b _=V2;have q:V.sub V2:=L▸Mem.sub_new hb _;have g:V2 b=some (.cells d.row.toArray 30 (0,0)):=by rw[<-L];exact Mem.set_same _ _ _
 haveI:Tab V2:=Tab.sub (V:=V) inferInstance q;have t:=hl.sub q;have X:=hd.sub q;refine(Ln (l:=l) (first:=[]) (caps:=[pv b]) t.rows Tryz.call53 (λm=>!AB d m) λm hm=>Pl X (t.ok m hm) g).call ⟨_,rfl,λk=>⟨?_,q⟩,λk=>⟨λhs=>⟨?_,q⟩,λhs=>⟨λB=>⟨?_,q⟩,λB=>?_⟩⟩⟩
 ·rw[f,if_neg λh=>?_];have:=h.2;unfold Cr at this;rw[k]at this;cases this
 ·rw[f,if_pos ⟨r,by unfold Cr;simpa using k⟩,if_pos (.inl hs)]
 ·rw[f,if_pos ⟨r,by unfold Cr;simpa using k⟩,if_pos (.inr B)]
 have E:Cr d ms=true:=by unfold Cr;simpa using k
 have w:=EU.1 E;rw[if_pos ⟨r,E⟩,if_neg (by omega)]at f;obtain⟨n,hn⟩:∃n:Nat,size=n:=⟨size.toNat,by omega⟩;subst hn;rw[Int.toNat_natCast]at f;have H:0<n:=by omega
 refine GenK.makeMap λmb hmb=>⟨some mb,rfl,?_⟩;have B0:Ar V2 (V2.set mb (.map #[] 0)) (MS mb (λ_=>none) EmQ):=MS.start EmQ.over (Ar.mk EmQ.over (W:=V2) (Mem.sub.refl V2) (Mem.sub.refl V2)) hmb;have e00:(λ_=>none:KB->Option Value)=seenC (Aw n ((ms.take 0).map (Ai d))):=by
  funext x;simp[seenC,Aw]
 rw[e00]at B0;refine E3 ms.length (λi V5=>∃D,V2.sub D/\Ar D V5 (MS mb (seenC (Aw n ((ms.take i).map (Ai d)))) EmQ)) ⟨V2,Mem.sub.refl _,B0⟩ ?_;rintro i V5 J hi ⟨D,N,Z⟩ hJ;have Y:=t.sub (N.trans Z.sub);refine⟨λQ=>?_,λhge=>?_⟩
 ·obtain⟨m,hm,hmi,-,hil,hp,hz,K⟩:=Y.rows.get Q;have G:BR d m:=⟨r.1,r.2,w m hm⟩;refine⟨hp,hz,Q,m.gs,m.ns,K,d.name,d.ts,d.gs,d.ps,d.ms,d.is,d.qs,d.bs,At ((N.trans Z.sub) _ _ g) 0 8 (by simp[Ds.row]),?_⟩;refine Tri.mono (Z.run (R:=λe U'=>∃s:Sl,e=.returned s.v/\Bt U' s (Ai d m)) λU S=>?_) ?_
  ·haveI:Tab U:=Tab.sub (V:=V2) inferInstance (N.trans S);exact JF G (X.sub (N.trans S)) ((t.ok m hm).sub (N.trans S))
  rintro _ V6 ⟨D6,hD6,⟨s6,rfl,hb6⟩,B6⟩;refine⟨s6,rfl,?_⟩;have hcl:=Gb G;refine Tri.mono (B6.run (R:=λe U'=>∃o:Sl,e=.returned o.v/\Ls U' o (AK n (Ai d m))) λU S=>Lg (hb6.sub S) (by omega) H (by omega)) ?_;rintro _ V7 ⟨D7,hD7,⟨o7,rfl,O⟩,B7⟩;refine⟨o7,rfl,?_⟩;obtain⟨z,A⟩:∃z,z=AK n (Ai d m):=⟨_,rfl⟩;rw[<-A]at O;have hon:=O.n;have hcb:z.length<=2147483648:=by
   rw[A,ES H];have:=Nat.div_le_self ((Ai d m).length+n-1) n;omega
  refine E3 z.length (λj V8=>Ar D7 V8 (MS mb (seenC ((z.take j).foldl A8 (Aw n ((ms.take i).map (Ai d))))) EmQ)) B7 ?_;rintro j V8 J1 hj F hJ1;refine⟨λT=>?_,λy=>?_⟩
  ·have I:j<z.length:=by omega
   obtain⟨u,hp1,M,hu⟩:=(O.sub F.sub).get (yu I);refine⟨hp1,by omega,T,u,M,GenK.bstr Tryz.underlying34 Tryz.underlying5 xW rfl hu ⟨_,rfl,?_⟩⟩;refine BQ.key (enc:=Value.string) (keyStr xW) wG (MS.get EmQ.over F) λob hm'=>⟨⟨by omega,by omega⟩,hJ1 I _ ?_⟩;have:=MS.upd EmQ.over F (hm'.congr λx=>seenC_add _ _ x);rw[wh,yu I];rw[<-fold_snoc]at this;exact this
  ·have hcsl:z.take j=z:=wH (by omega);rw[hcsl,A]at F;refine⟨Y.rows.succ Q,hJ hil _ ⟨D7,N.trans (hD6.trans hD7),?_⟩⟩;rw[wh,hmi,List.map_append];have:=Hw n ((ms.take i).map (Ai d)) (Ai d m);rw[<-this]at F;exact F
 ·have y:=(Y.rows.done hge).2;rw[wH y]at Z;obtain⟨C,hC⟩:∃C,C=Aw n (ms.map (Ai d)):=⟨_,rfl⟩;rw[<-hC]at Z f;have hCb:∀c∈C,An c:=λc hc=>by
   rw[hC]at hc;obtain⟨b,hb,hc⟩:=Jw _ c hc;obtain⟨m,hm,rfl⟩:=wc.1 hb;exact chunks_b H (code_b ⟨r.1,r.2,w m hm⟩) c hc
  refine GenK.lenV (enc:=Value.string) (c:=C.map Cf) (λa b h=>by cases h;rfl) wG (MS.get EmQ.over Z) (nd_map (by rw[hC];exact dist_nd _ _) hCb) (λa=>?_) rfl ⟨_,rfl,?_,q.trans (N.trans Z.sub)⟩
  ·haveI:=tG (a∈C.map Cf);unfold seenC;by_cases ha:a∈C.map Cf;·rw[if_pos ha];exact(decide_eq_true ha).symm.trans (by congr)
   ·rw[if_neg ha];exact(decide_eq_false ha).symm.trans (by congr)
  ·rw[f,List.length_map]
end
end Go.Proofs
