/- Part 42: no statement of the seat is proved here. -/
import Derived.Test.YtgdmkmfchcflpaaGreatDoorPe26
import Derived.Test.YtgdmkmfchcflpaaGreatDoorPe28
import Derived.Test.YtgdmkmfchcflpaaGreatDoorPe29
set_option linter.unusedVariables false
set_option linter.unusedSimpArgs false
open Go.Proofs.Tryz renaming prog->xE
open Go.DataW renaming Trod->tQ
open Bool renaming and_eq_true->zC
open Nat renaming le_refl->yV
open List renaming append_nil->xp,length_take->wX,length_map->wq,length_append->zw,map_append->yP,sum_append->uR,mem_of_mem_take->wW,getElem?_map->y4,take_add_one->wh,mem_singleton->zO,getElem?_append_left->vt,getElem?_append_right->vq,mem_append->wZ
open Int renaming toNat_natCast->vM
open List.cons renaming injEq->yE
namespace Go.Proofs
open Go Go.Sx
set_option maxRecDepth 100000
section
variable{V:Mem}{R:RP}
theorem PE{a:Int}{b:Sl}{c d g:Int}(h:TB 30 #[uA #[uI a,uL b,uI c,uI d]] V λi V1=>Br (i=true) (Br (g<0) (R (rT #[uA #[uI 0,z0,uI 0,uI 0],uI 2]) V1) (IR ((b.n:Int)-c)/\Br (((b.n:Int)-c)<g) (R (rT #[uA #[uI 0,z0,uI 0,uI 0],uI 2]) V1) (IR (c+g)/\(0<=(0:Int)/\(0:Int)<=(c+g)/\(c+g)<=(b.c:Int))/\TT 58 #[uA #[uI a,uL b,uI c,uI d],.slice (if(b.c:Int)=(0:Int)then b.p else Aa b.p ((0:Int).toNat*1)) ((c+g)-0).toNat ((b.c:Int)-0).toNat] V1 λe V2=>∃j k l o,e=rV (uA #[uI j,uL k,uI l,uI o])/\R (rT #[uA #[uI j,uL k,uI l,uI (-1)],uI 0]) V2))) (R (rT #[uA #[uI 0,z0,uI 0,uI 0],uI 1]) V1)):TT 33 #[uA #[uI a,uL b,uI c,uI d],uI g] V R:=Ae Tryz.func33 h
theorem PF{a:Sl}(h:Br (a.p=none) (R (rV (z0)) V) (Af [] 34 V λb V1=>Ap 5 6 41 (.slice (Aa b 0) (0:Int).toNat (0:Int).toNat) (uL a) V1 λc V2=>R (rV (uL c)) V2)):TT 34 #[uL a] V R:=Ae Tryz.func34 h
end
end Go.Proofs
namespace Go.Proofs
open Go Go.Sx
set_option maxRecDepth 100000
section
variable{V:Mem}{R:RP}
abbrev w7_0(Z:Sl)(w:Int)(R:RP)(y:Mem)(q Y K:Int)(a:KB)(b c d g i j k l:Sl)(Q:Int)(P:Bool):Prop:=Br ((Z.n:Int)<w) (R KQ y) (IR ((Z.n:Int)-w)/\IR (((Z.n:Int)-w)+1)/\IR q/\IR (((Z.n:Int)-w)+1)/\IR ((Z.n:Int)-w)/\¬(((Z.n:Int)-w)+1)=0/\TT 33 #[uA #[uI Y,uL Z,uI w,uI K],uI ((q).tmod (((Z.n:Int)-w)+1))] y λe m=>∃A M F L X,e=rT #[uA #[uI A,uL M,uI F,uI L],uI X]/\Br (X=0) (TT 29 #[uA #[uI A,uL M,uI F,uI L]] m λe H=>∃J b1 b2 b3 B,e=rT #[uA #[uI J,uL b1,uI b2,uI b3],uI B]/\TL 13 #[uD a b c d g i j k,uL l] H λh r=>Br (B=0) ((0<=(0:Int)/\(0:Int)<=Q/\Q<=(h.c:Int))/\TB 15 #[uA #[uI J,uL b1,uI b2,uI b3],uD a b c d g i j k,.slice (if(h.c:Int)=(0:Int)then h.p else Aa h.p ((0:Int).toNat*1)) (Q-0).toNat ((h.c:Int)-0).toNat] r λb6 v=>Br (b6=true) (Lp [uI J,uL b1,uI b2,uI b3,uB P,uI 0] v λI n t=>∀b7 G N c0 C z,I n [uI b7,uL G,uI N,uI c0,uB C,uI z] t->∀D:LMP,Nx I n D->Br (z<(l.n:Int)) (Ix l z (∃c3 c4,t.rowp l.p (z.toNat*2) 2=some [uL c3,uL c4]/\TT 16 #[uA #[uI b7,uL G,uI N,uI c0],uD a b c d g i j k,uA #[uL c3,uL c4]] t λe f=>∃c5 c6 c7 c8 c9 E,e=rT #[uA #[uI c5,uL c6,uI c7,uI c8],uI c9,uI E]/\Br (E=0) (Br (c9<Q) (R KQ f) (IR (z+1)/\D [uI c5,uL c6,uI c7,uI c8,uB C,uI (z+1)] f)) (R KQ f))) ((0<=(0:Int)/\(0:Int)<=Q/\Q<=(h.c:Int))/\TL 34 #[.slice (if(h.c:Int)=(0:Int)then h.p else Aa h.p ((0:Int).toNat*1)) (Q-0).toNat ((h.c:Int)-0).toNat] t λc3 f=>Ap 178 179 41 (uL c3) (uL h) f λc4 W=>TB 15 #[uA #[uI b7,uL G,uI N,uI c0],uD a b c d g i j k,uL c4] W λc5 O=>R (rV (uB c5)) O)) (R KQ v)) (R KQ r)) (R KQ m))
def w7(a:KB)(b c d g i j k l:Sl)(o p q:Int):MR:=λV R=>TB 8 #[] V λr V1=>Br (r=true) (TB 9 #[uD a b c d g i j k,uL l] V1 λs V2=>Br (s=true) (Br (o<32) (R KX V2) (Br (256<o) (R KX V2) (Br (p<0) (R KX V2) (Br (20000<p) (R KX V2) (TB 11 #[uD a b c d g i j k,uL l] V2 λu S=>Br (u=true) (TL 13 #[uD a b c d g i j k,uL l] S λy V4=>TL 13 #[uD a b c d g i j k,uL l] V4 λz V5=>Ap 58 61 41 (uL y) (uL z) V5 λA V6=>TB 14 #[uL A] V6 λB T=>Br (B=true) (TT 10 #[uI o,uI p] T λe V8=>∃C D F G H,e=rT #[uA #[uI C,uL D,uI F,uI G],uI H]/\Br (H=0) (Lp [uI C,uL D,uI F,uI G,uB false,uI 0,uI 0] V8 λI n v=>∀L M N O P Q U,I n [uI L,uL M,uI N,uI O,uB P,uI Q,uI U] v->∀J:LMP,Nx I n J->Br (U<(l.n:Int)) (Ix l U (∃W X,v.rowp l.p (U.toNat*2) 2=some [uL W,uL X]/\TT 16 #[uA #[uI L,uL M,uI N,uI O],uD a b c d g i j k,uA #[uL W,uL X]] v λe f=>∃Y Z t w E m,e=rT #[uA #[uI Y,uL Z,uI t,uI w],uI E,uI m]/\Br (m=0) (TB 30 #[uA #[uI Y,uL Z,uI t,uI w]] f λK h=>Br (K=true) (Br (m=27) (w7_0 Z t R h q Y w a b c d g i j k l Q P) (Br (E=Q) (IR (Q+1)/\IR (U+1)/\J [uI Y,uL Z,uI t,uI w,uB P,uI (Q+1),uI (U+1)] h) (R KQ h))) (R KQ h)) (Br (m=27) (TB 30 #[uA #[uI Y,uL Z,uI t,uI w]] f λK h=>Br (K=true) (Br (m=27) (w7_0 Z t R h q Y w a b c d g i j k l Q P) (Br (E=Q) (IR (Q+1)/\IR (U+1)/\J [uI Y,uL Z,uI t,uI w,uB P,uI (Q+1),uI (U+1)] h) (R KQ h))) (R KQ h)) (R KQ f)))) (w7_0 M N R v q L O a b c d g i j k l Q P)) (R KQ V8)) (R KX T)) (R KX S)))))) (R KX V2)) (R KQ V1)
theorem x7{a:KB}{b c d g i j k l:Sl}{o p q:Int}(h:w7 a b c d g i j k l o p q V R):TT 7 #[uD a b c d g i j k,uL l,uI o,uI p,.int .u16 q] V R:=DB Tryz.func7 [] [(10,[11]),(31,[19])] false (by kernel_rfl) (by kernel_rfl) h
end
end Go.Proofs
namespace Go.Proofs.YtgdmkmfchcflpaaGreatDoor
open Go Go.Sx Go.Proofs Go.ChangeShapes Go.WideShapes Go.ChangeAt Go.RowKit
theorem trodAll_five{H:Type}{enc:TypeId×Value->H}{w:World}{a b c d e:TypeId}{args:Array Value}{ds:List (DataW H)}{ps:List MemPlace}(h:DataW.TrodAll enc xE w 0 (λ_=>true) true [a,b,c,d,e] args.toList ds ps):
  ∃f t z y j i m r v J p0 p1 G p3 N,args=#[f,t,z,y,j]/\ds=[i,m,r,v,J]/\ps=p0++(p1++(G++(p3++N)))/\tQ enc xE w 0 (λ_=>true) true a f i p0/\tQ enc xE w 0 (λ_=>true) true b t m p1/\tQ enc xE w 0 (λ_=>true) true c z r G/\
   tQ enc xE w 0 (λ_=>true) true d y v p3/\tQ enc xE w 0 (λ_=>true) true e j J N:=by
 obtain⟨f,vs,i,Y,p,q,Z,rfl,rfl,W,g⟩:=trodAll_cons h;obtain⟨t,Q,m,P,p1,E,rfl,rfl,rfl,O,g⟩:=trodAll_cons g;obtain⟨z,A,r,I,G,K,rfl,rfl,rfl,M,g⟩:=trodAll_cons g;obtain⟨y,F,v,L,p3,S,rfl,rfl,rfl,X,g⟩:=trodAll_cons g;obtain⟨j,B,J,C,N,T,rfl,rfl,rfl,D,g⟩:=trodAll_cons g;obtain⟨rfl,rfl,rfl⟩:=trodAll_nil g;exact⟨f,t,z,y,j,i,m,r,v,J,p,p1,G,p3,N,by grind,rfl,by simp,W,O,M,X,D⟩
end Go.Proofs.YtgdmkmfchcflpaaGreatDoor
namespace Go.Proofs.YtgdmkmfchcflpaaGreatDoor
open Go Go.Sx Go.Proofs Go.ChangeShapes Go.WideShapes Go.ChangeAt Go.RowKit
theorem u16R{n:Int}(h:(Lit.int .u16 n).wf=true):0<=n/\n<=65535:=by
 simp only[Lit.wf,zC,decide_eq_true_eq]at h;exact⟨h.1,h.2⟩
end Go.Proofs.YtgdmkmfchcflpaaGreatDoor
namespace Go.Proofs
open Go Go.Sx
def Ee(k:Dk)(keep:Nat):Dk:=⟨k.page,k.data.take (k.syn.toNat+keep),k.syn,-1⟩
theorem restart_recs(k:Dk):Ao (CV k).page.toNat (CV k).data=Ao k.page.toNat k.data:=by
 have:=Jt k.page.toNat _ k.data [] (yV _);rw[xp,Ib,xp,Nat.add_zero]at this;exact this
end Go.Proofs
namespace Go.Proofs
open Go Go.Sx
attribute [local irreducible] Go.Sx.Tri
section
variable{V:Mem}{s u:Sl}{k:Dk}{x:List Int}
theorem PG(h:Bt V s k.data)(j:k.data.length<=2147483648){keep:Nat}(w:AY k=true)(z:k.syn.toNat+keep<=k.data.length):Tri xE 33 #[k.v s,.int .i64 keep] V λe V'=>V.sub V'/\∃s':Sl,e=.returned (.tuple #[(Ee k keep).v s',.int .i64 0])/\Bt V' s' (Ee k keep).data:=by
 refine PE ?_;have c:=h.n;have a:=h.rows.cap;obtain⟨H,J,G,N,Z,Y,W⟩:=BF w;obtain⟨f,g⟩:∃f:Nat,k.syn=f:=⟨k.syn.toNat,by omega⟩;rw[g,vM]at z;refine(FA h j).call ⟨_,rfl,λ_=>⟨λi=>by omega,λi=>⟨⟨by omega,by omega⟩,λm=>by omega,λm=>?_⟩⟩,λr=>absurd w r⟩;have q:k.syn+(keep:Int)=((f+keep:Nat):Int):=by rw[g];push_cast;rfl
 rw[q];refine⟨⟨by omega,by omega⟩,⟨by omega,by omega,by omega⟩,?_⟩;have t:=h.sl (lo:=0) (hi:=f+keep) (by omega) z;refine Tri.mono (JC (k:=k) (s:=s) t (by rw[wX];omega)) ?_;rintro _ V2 ⟨p,rfl,y⟩;refine⟨_,_,_,_,rfl,y.sub,p,rfl,?_⟩;have e:(Ee k keep).data=(k.data.drop 0).take ((f+keep)-0):=by
  unfold Ee;rw[g,vM];rfl
 rw[e];exact Own.bt y t.b
end
end Go.Proofs
namespace Go.Proofs
open Go Go.Sx
section
variable{k:Dk}{codes l:List (List Int)}{n:Nat}
theorem DI.torn(h:DI k n):Torn k n:=by
 refine⟨h.syn,h.small,[],0,⟨rfl,by simp,by simp⟩,by simp[AF,DV],?_⟩;rw[List.drop_eq_nil_of_le (by rw[h.len];omega)];simp
theorem AX.crash(h:AX k codes)(t:Torn k n){keep:Nat}(p:k.syn.toNat+keep<=k.data.length):AX (Ee k keep) codes/\Ao (Ee k keep).page.toNat (Ee k keep).data=Ao k.page.toNat k.data:=by
 obtain⟨z,y,c,b,a,i,m⟩:=BF h.ok;obtain⟨P,j,w,e,r⟩:=t.tail;have g:=t.syn;have f:Ao (Ee k keep).page.toNat (Ee k keep).data=Ao k.page.toNat k.data:=by
  show Ao k.page.toNat (k.data.take (k.syn.toNat+keep))=_;rw[g,vM,List.take_add,r,List.take_take];exact K1 w.len w.page (by omega)
 have q:AY (Ee k keep)=true:=by
  unfold AY;refine decide_eq_true ⟨z,y,?_,by simp[Ee],by simp[Ee],i,by rw[f];exact m⟩;simp only[Ee,wX];omega
 exact⟨h.same q rfl (by rw[f]),f⟩
theorem AX.restart(h:AX k codes)(f:(Ao k.page.toNat k.data).2<=25000*n):AX (CV k) codes/\DI (CV k) n:=by
 obtain⟨t,w,r,z,y,q,p⟩:=BF h.ok;have g:=restart_recs k;have j:=Fz k.page.toNat _ k.data (yV _);have i:(CV k).data.length=(Ao k.page.toNat k.data).2:=by
  show(k.data.take _).length=_;rw[wX];omega
 have m:AY (CV k)=true:=by
  unfold AY;refine decide_eq_true ⟨t,w,by omega,z,y,by simp[CV],by rw[g];simp[CV]⟩
 exact⟨h.same m rfl (by rw[g]),by rw[g];rfl,by rw[g];exact i,by rw[g];exact f⟩
end
end Go.Proofs
namespace Go.Proofs
open Go Go.Sx
attribute [local irreducible] Go.Sx.Tri
section
variable{V:Mem}{d:Ds}{o l s:Sl}{ms:List Mm}{page after keep:Int}{k:Dk}
theorem PH{ss:List Sl}(h:Ad V l 1 (ss.map BL))(t:ss.length<=2147483648):Tri xE 34 #[l.v] V λe V'=>∃s:Sl,e=.returned (.slice s.p s.n s.c)/\Sx.Own V V' 34 1 s (ss.flatMap BL):=by
 refine PF ?_;refine⟨λw=>⟨⟨none,0,0⟩,rfl,?_⟩,λw z g=>?_⟩
 ·have:ss=[]:=by
   cases ss with
   |nil=>rfl
   |cons a j=>
    have:=h.base (i:=0) (by simp);simp_all
  subst this;exact Own.nil (Mem.sub.refl _) _ _
 ·have f:=Mem.sub_new g (.cells #[] 34 (0,0));exact app41 (s:=⟨some ⟨z,0,none⟩,0,0⟩) (u:=l) (xs:=[]) (ys:=ss) rfl rfl (Own.empty (V0:=V) f _ _ _) (h.sub f) (by simpa using t) λs' V' y=>⟨s',rfl,s',rfl,by simpa using y⟩
theorem surv_tail[hT:Tab V](hd:Ds.Ok V d)(hl:CT V l ms)(hr:AL d)(hok:Cr d ms=true)(hn:ms.length<=8)(N:roomP (ms.map (Ai d)++ms.map (Ai d))=true){done n:Nat}(hdn:done<=ms.length)(A:AX k ((ms.map (Ai d)).take done))(T:Torn k n)(hn9:n<=9)(hb:Bt V s k.data)(hkp:0<=keep/\keep<=65535){z:Int}(hz:z=(done:Int)){b28:Bool}{R:Ending->Mem->Prop}(hR:∀V',V.sub V'->R (.returned (.bool true)) V'):
  Br ((s.n:Int)<k.syn)
  (R KQ V)
  (IR ((s.n:Int)-k.syn)/\IR (((s.n:Int)-k.syn)+1)/\IR keep/\IR (((s.n:Int)-k.syn)+1)/\IR ((s.n:Int)-k.syn)/\¬(((s.n:Int)-k.syn)+1)=0/\TT 33 #[uA #[uI k.page,uL s,uI k.syn,uI k.aft],uI ((keep).tmod (((s.n:Int)-k.syn)+1))] V λe V12=>∃v40 v41 v42 v43 v44,e=rT #[uA #[uI v40,uL v41,uI v42,uI v43],uI v44]/\
  Br (v44=0)
  (TT 29 #[uA #[uI v40,uL v41,uI v42,uI v43]] V12 λe V13=>∃v45 v46 v47 v48 v49,e=rT #[uA #[uI v45,uL v46,uI v47,uI v48],uI v49]/\
  TT 13 #[uA #[uS d.name,uL d.ts,uL d.gs,uL d.ps,uL d.ms,uL d.is,uL d.qs,uL d.bs],uL l] V13 λe Z=>∃f,e=rV (uL f)/\
  Br (v49=0)
  ((0<=(0:Int)/\(0:Int)<=z/\z<=(f.c:Int))/\TT 15 #[uA #[uI v45,uL v46,uI v47,uI v48],uA #[uS d.name,uL d.ts,uL d.gs,uL d.ps,uL d.ms,uL d.is,uL d.qs,uL d.bs],.slice (if(f.c:Int)=(0:Int)then f.p else Aa f.p ((0:Int).toNat*1)) (z-0).toNat ((f.c:Int)-0).toNat] Z λe V15=>∃v51,e=rV (uB v51)/\
  Br (v51=true)
  (∃(I:Nat->KZ)(n0:Nat),I n0 [uI v45,uL v46,uI v47,uI v48,uB b28,uI 0] V15/\∀n t,∀C E K S v56 y,I n [uI C,uL E,uI K,uI S,uB v56,uI y] t->∀J1:KZ,(∀m ys V'',m<n->I m ys V''->J1 ys V'')->
  Br (y<(l.n:Int))
  (¬l.p=none/\0<=y/\y<(l.n:Int)/\∃Y W,t.rowp l.p (y.toNat*2) 2=some [uL Y,uL W]/\
  TT 16 #[uA #[uI C,uL E,uI K,uI S],uA #[uS d.name,uL d.ts,uL d.gs,uL d.ps,uL d.ms,uL d.is,uL d.qs,uL d.bs],uA #[uL Y,uL W]] t λe b=>∃Q v61 v62 v63 v64 v65,e=rT #[uA #[uI Q,uL v61,uI v62,uI v63],uI v64,uI v65]/\
  Br (v65=0)
  (Br (v64<z)
  (R KQ b)
  (IR (y+1)/\J1 [uI Q,uL v61,uI v62,uI v63,uB v56,uI (y+1)] b))
  (R KQ b))
  ((0<=(0:Int)/\(0:Int)<=z/\z<=(f.c:Int))/\TT 34 #[.slice (if(f.c:Int)=(0:Int)then f.p else Aa f.p ((0:Int).toNat*1)) (z-0).toNat ((f.c:Int)-0).toNat] t λe b=>∃Y,e=rV (uL Y)/\
  GenK xE (.call {callee:=(.builtin .append),args:=#[(.tmp 178),(.tmp 179)],argTypes:=#[41,41]}) 41 (gv [(178,uL Y),(179,uL f)]) b λx U=>∃W,x=uL W/\
  TT 15 #[uA #[uI C,uL E,uI K,uI S],uA #[uS d.name,uL d.ts,uL d.gs,uL d.ps,uL d.ms,uL d.is,uL d.qs,uL d.bs],uL W] U λe V19=>∃Q,e=rV (uB Q)/\
  R (rV (uB Q)) V19))
  (R KQ V15))
  (R KQ Z))
  (R KQ V12)):=by
 subst hz;have a:=EU.1 hok;obtain⟨codes,g⟩:∃codes,codes=ms.map (Ai d):=⟨_,rfl⟩;have hcl:codes.length=ms.length:=by rw[g,wq]
 rw[<-g]at A N;obtain⟨hrm1,hrm2⟩:=JX N;rw[zw]at hrm1;rw[yP,uR]at hrm2;have hvk:=BF A.ok;have hsn:=hb.n;have hsy:=T.syn;have hln:=hl.rows.n_eq;have hle:=Fz k.page.toNat _ k.data (yV _);refine⟨λh=>absurd h (by omega),λ_=>⟨⟨by omega,by omega⟩,⟨by omega,by omega⟩,⟨by omega,by omega⟩,⟨by omega,by omega⟩,⟨by omega,by omega⟩,by omega,?_⟩⟩;obtain⟨kp,rfl⟩:∃kp:Nat,keep=kp:=⟨keep.toNat,by omega⟩;obtain⟨w,hw⟩:∃w:Nat,(s.n:Int)-k.syn=w:=⟨((s.n:Int)-k.syn).toNat,by omega⟩;have e:((kp:Int)).tmod (((s.n:Int)-k.syn)+1)=((kp % (w+1):Nat):Int):=by
  rw[hw,Int.tmod_eq_emod_of_nonneg (by omega)];rfl
 have hlt:=Nat.mod_lt kp (show w+1>0 by omega);rw[e];have hkk:k.syn.toNat+kp % (w+1)<=k.data.length:=by omega
 obtain⟨A1,hrec1⟩:=A.crash T hkk;refine Tri.mono (PG hb (by omega) A.ok hkk) ?_;rintro _ V12 ⟨s12,t12,rfl,hb12⟩;refine⟨_,t12,_,_,_,rfl,λ_=>?_,λh=>absurd rfl h⟩;have hl1:=(BF A1.ok).2.2.1;refine Tri.mono (M4 hb12 (by omega)) ?_;rintro _ V13 ⟨s13,hre⟩;rw[if_pos A1.ok]at hre;obtain⟨t13,rfl,hb13⟩:=hre;have P:=s12.trans s13;obtain⟨A2,C2⟩:=A1.restart (n:=n) (by rw[hrec1];exact T.small);have hp2:(CV (Ee k (kp % (w+1)))).aft=-1:=rfl;refine⟨_,t13,_,_,_,rfl,Tri.mono (It (hd.sub P) (hl.sub P) hr hok (by omega)) ?_⟩;rintro _ Z ⟨o,D,rfl,hVD,hP⟩;have O:=(P.trans hVD).trans hP.sub;rw[<-g]at hP;have hLo:=hP.ls;obtain⟨ss,hs1,hs2,hs3⟩:=hLo.at_;have hon:=hLo.n;have hoc:=hs1.cap;haveI:Tab Z:=Tab.sub (V:=V) inferInstance O;have htk:∀i,(ms.take i).map (Ai d)=codes.take i:=λi=>by rw[g,List.map_take]
 have hpre:=hLo.pre (i:=done) (by omega);have A2':=A2;rw[<-htk]at hpre A2';refine⟨o,rfl,λ_=>⟨⟨by omega,by omega,by omega⟩,(JZ (hd.sub O) A2' (hb13.sub (hVD.trans hP.sub)) hpre hr (λm hm=>a m (wW hm)) (by rw[wX];omega)).call ⟨_,rfl,λ_=>?_,λh=>absurd rfl h⟩⟩,λh=>absurd rfl h⟩;refine⟨λmm xs t=>∃(i:Nat)(k:Dk)(s:Sl)(q:Nat),mm=ms.length-i/\i<=ms.length/\xs=[.int .i64 k.page,.slice s.p s.n s.c,.int .i64 k.syn,.int .i64 k.aft,.bool b28,.int .i64 i]/\Z.sub t/\Bt t s k.data/\AX k (codes.take done++codes.take i)/\q<=n+i/\DI k q/\k.aft=-1,ms.length,
  ⟨0,_,t13,_,rfl,Nat.zero_le _,rfl,Mem.sub.refl _,hb13.sub (hVD.trans hP.sub),by simpa using A2,yV _,C2,hp2⟩,?_⟩
 rintro mm t C E K S v56 y ⟨i,k3,s3,q,rfl,hi,hxs,M,hb16,G,hq,C16,ha16⟩ J hJ;simp only[yE,and_true]at hxs;obtain⟨q1,q2,q3,q4,q5,q6⟩:=hxs;cases Ax _ _ q1;cases AG _ _ q2;cases Ax _ _ q3;cases Ax _ _ q4;cases q5;cases Ax _ _ q6;have r:=O.trans M;haveI:Tab t:=Tab.sub (V:=V) inferInstance r;have hl16:=(BF G.ok).2.2.1;have hsum1:=GO codes done;have hsum2:=GO codes i;have hsum3:=GO codes (i+1);refine⟨λF=>?_,λhge=>?_⟩
 ·obtain⟨m,hm,hmi,-,hil,hp,hz,hrow⟩:=(hl.rows.sub r).get F;refine⟨hp,hz,F,m.gs,m.ns,hrow,Tri.mono (GN (k:=k3) (hd.sub r) hb16 (by omega) ((hl.ok m hm).sub r)) ?_⟩;rintro _ b ⟨s17,t17,rfl,H⟩;have hci:codes[i]?=some (Ai d m):=by rw[g,y4,hmi];rfl
  have L:codes.take done++codes.take i++[Ai d m]=codes.take done++codes.take (i+1):=by rw[wh,hci,List.append_assoc];rfl
  rw[FH hr (λx hx=>by rw[zO.1 hx];exact a m hm) G.ok]at H⊢;have hmap:[m].map (Ai d)=[Ai d m]:=rfl;rw[hmap]at H⊢;obtain⟨k4,hk4,A4,C4,hp4,ha4⟩:=G.adds0 (l:=[Ai d m]) C16 (by omega) (by rw[L,yP,uR];omega) (by rw[L,zw,wX,wX];omega) ha16;rw[hk4]at H⊢;rw[L]at A4;refine⟨_,t17,_,_,_,_,rfl,λ_=>⟨λh=>absurd h ?_,λ_=>⟨hl.rows.succ F,hJ _ _ _ (show ms.length-(i+1)<ms.length-i by omega) ⟨i+1,k4,t17,_,rfl,hil,rfl,M.trans s17,H,A4,by omega,C4,ha4⟩⟩⟩,λh=>absurd rfl h⟩;show ¬((codes.take done++codes.take i).length:Int)<(done:Int);rw[zw,wX];omega
 ·have hie:codes.take i=codes:=List.take_of_length_le (by omega);rw[hie]at G;refine⟨⟨by omega,by omega,by omega⟩,?_⟩;have hpre16:=(hLo.pre (i:=done) (by omega)).sub M;obtain⟨ts,t1,t2,t3⟩:=hpre16.at_;rw[wX]at t2;refine Tri.mono (PH t1 (by omega)) ?_;rintro _ b ⟨s17,rfl,o17⟩;have hrow17:=(hs1.sub M).sub o17.sub;refine⟨s17,rfl,app41 (s:=s17) (u:=o) (xs:=ts) (ys:=ss) rfl rfl o17 hrow17 (by omega) λo' U X=>⟨o',rfl,?_⟩⟩;have B:=r.trans X.sub;have hL18:Ls U o' (codes.take done++codes):=by
   refine⟨ts++ss,X.rows (λ_=>rfl) (by decide),by rw[zw,zw,wX,t2,hs2],λj v w hv hw=>?_⟩;by_cases hj:j<ts.length
   ·rw[vt hj]at hv;rw[vt (by rw[wX];omega)]at hw;exact(t3 j v w hv hw).sub X.sub
   ·rw[vq (by omega)]at hv;rw[vq (by rw[wX];omega),wX,<-t2]at hw;exact((hs3 _ v w hv hw).sub M).sub X.sub
  have e3:codes.take done++codes=(ms.take done++ms).map (Ai d):=by rw[yP,htk,<-g]
  rw[e3]at hL18 G;haveI:Tab U:=Tab.sub (V:=V) inferInstance B;exact(JZ (hd.sub B) G (hb16.sub X.sub) hL18 hr (λm hm=>(wZ.1 hm).elim (λh=>a m (wW h)) (a m)) (by rw[zw,wX];omega)).call ⟨_,rfl,hR _ B⟩
theorem c7[hT:Tab V](Q:Ds.Ok V d)(b:CT V l ms)(O:0<=keep/\keep<=65535):PP 7 [d.v,l.v,.int .i64 page,.int .i64 after,.int .u16 keep] V (.bool true):=by
 obtain⟨R,hR⟩:∃R:Ending->Mem->Prop,R=λe V'=>e=.returned (.bool true)/\V.sub V':=⟨_,rfl⟩;refine AP.mk ?_;rw[<-hR];have z:∀{V'},V.sub V'->R (.returned (.bool true)) V':=λh=>by rw[hR];exact⟨rfl,h⟩
 refine x7 ?_;unfold w7;refine c8.call ⟨_,rfl,λ_=>?_,λh=>absurd rfl h⟩;refine Tri.mono (c9 Q b) ?_;rintro _ V2 ⟨rfl,bf,rfl,D⟩;have hln:=b.rows.n_eq;refine⟨bf,rfl,λT=>⟨λ_=>z (Mem.sub.refl _),λh32=>⟨λ_=>z (Mem.sub.refl _),λh256=>⟨λ_=>z (Mem.sub.refl _),λha0=>⟨λ_=>z (Mem.sub.refl _),λha2=>?_⟩⟩⟩⟩,λ_=>z (Mem.sub.refl _)⟩;have D:=D T;refine(c11 Q b).call ⟨_,rfl,λj=>?_,λ_=>z (Mem.sub.refl _)⟩;have j:(decide (AL d)&&Cr d ms)=true:=j;rw[zC]at j;have P:AL d:=of_decide_eq_true j.1;have a:=j.2;have G:=EU.1 a;refine codes2 (gvf:=λs t=>gv [(58,uL s),(61,uL t)]) Q b P a (by omega) (λ_ _=>rfl) (λ_ _=>rfl) λo V6 s6 U=>⟨o,rfl,?_⟩;obtain⟨codes,g⟩:∃codes,codes=ms.map (Ai d):=⟨_,rfl⟩;have hcl:codes.length=ms.length:=by rw[g,wq]
 have hRm:=Ly U (by rw[zw,wq];omega) λx E=>by
  rw[wZ,or_self]at E;obtain⟨m,hm,rfl⟩:=List.mem_map.1 E;exact Gb ⟨P.1,P.2,G m hm⟩
 refine hRm.call ⟨_,rfl,λw=>?_,λ_=>z s6⟩;have w:roomP (ms.map (Ai d)++ms.map (Ai d))=true:=w;obtain⟨A,I⟩:=JX w;rw[<-g,zw]at A;rw[<-g,yP,uR]at I;have hf:=JB (V:=V6) (page:=page) (aft:=after);rw[if_pos ⟨by omega,by omega,by omega,by omega⟩]at hf;have A0:AX (By page after) []:=JA (by omega) (by omega) (by omega) (by omega);refine hf.call ⟨page,Ah,0,after,0,rfl,λ_=>?_,λh=>absurd rfl h⟩;refine⟨λmm xs K=>∃(i:Nat)(k:Dk)(s:Sl)(q:Nat),mm=ms.length-i/\i<=ms.length/\xs=[.int .i64 k.page,.slice s.p s.n s.c,.int .i64 k.syn,.int .i64 k.aft,.bool false,.int .i64 i,.int .i64 i]/\V.sub K/\Bt K s k.data/\AX k (codes.take i)/\q<=i/\DI k q,ms.length,
  ⟨0,By page after,Ah,0,rfl,Nat.zero_le _,rfl,s6,Bt.nil,A0,yV _,JP⟩,?_⟩
 rintro mm K v24 v25 v26 v27 v28 v29 v30 ⟨i,k,s,q,rfl,hi,M,N,F,L,hq,C9⟩ J hJ;simp only[yE,and_true]at M;obtain⟨q1,q2,q3,q4,q5,q6,q7⟩:=M;cases Ax _ _ q1;cases AG _ _ q2;cases Ax _ _ q3;cases Ax _ _ q4;cases q5;cases Ax _ _ q6;cases Ax _ _ q7;haveI:Tab K:=Tab.sub (V:=V) inferInstance N;have hl9:=(BF L.ok).2.2.1;refine⟨λZ=>?_,λhge=>?_⟩
 ·obtain⟨m,hm,hmi,-,hil,hp,hz,X⟩:=(b.rows.sub N).get Z;refine⟨hp,hz,Z,m.gs,m.ns,X,Tri.mono (GN (k:=k) (Q.sub N) F (by omega) ((b.ok m hm).sub N)) ?_⟩;rintro _ V10 ⟨s10,Y,rfl,f⟩;have hci:codes[i]?=some (Ai d m):=by rw[g,y4,hmi];rfl
  have r:codes.take i++[Ai d m]=codes.take (i+1):=by rw[wh,hci];rfl
  rw[FH P (λx E=>by rw[zO.1 E];exact G m hm) L.ok]at f⊢;have B:[m].map (Ai d)=[Ai d m]:=rfl;rw[B]at f⊢;have hsum:=GO codes (i+1);have y:=N.trans s10;haveI:Tab V10:=Tab.sub (V:=V) inferInstance y;rcases L.adds C9 (by omega) (l:=[Ai d m]) (by simp) (by rw[r];omega) (by rw[r,wX];omega)with⟨S,W,H,C2,hp2,-,-⟩|⟨ha9,S,W,H,T2,hp2⟩
  ·rw[W]at f⊢;rw[r]at H;have hl2:=(BF H.ok).2.2.1;have C:=FA f (show S.data.length<=2147483648 by omega);rw[H.ok]at C;refine⟨_,Y,_,_,_,_,rfl,λ_=>C.call ⟨_,rfl,λ_=>⟨λh=>absurd h (show ¬(0:Int)=27 by decide),λ_=>⟨λ_=>⟨⟨by omega,by omega⟩,b.rows.succ Z,hJ _ _ _ (show ms.length-(i+1)<ms.length-i by omega) ⟨i+1,S,Y,_,rfl,hil,rfl,y,f,H,by omega,C2⟩⟩,λh=>absurd ?_ h⟩⟩,λh=>absurd rfl h⟩,λh=>absurd rfl h⟩;show((codes.take i).length:Int)=(i:Int);rw[wX];omega
  ·rw[W]at f⊢;have hl2:=(BF H.ok).2.2.1;have C:=FA f (show S.data.length<=2147483648 by omega);rw[H.ok]at C;rw[g]at H;refine⟨_,Y,_,_,_,_,rfl,λh=>absurd h (show ¬(27:Int)=0 by decide),λ_=>⟨λ_=>C.call ⟨_,rfl,λ_=>⟨λ_=>?_,λh=>absurd rfl h⟩,λh=>absurd rfl h⟩,λh=>absurd rfl h⟩⟩;exact surv_tail (Q.sub y) (b.sub y) P a D w (done:=i) (by omega) H T2 (by omega) f O rfl λV' h=>z (y.trans h)
 ·rw[g]at L;exact surv_tail (Q.sub N) (b.sub N) P a D w (done:=i) (by omega) L C9.torn (by omega) F O rfl λV' h=>z (N.trans h)
end
end Go.Proofs
