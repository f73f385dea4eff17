/- Part 15: no statement of the seat is proved here. -/
import Derived.Test.YtcebnmieadkjfaaGreatDoorPg14
set_option linter.unusedVariables false
set_option linter.unusedSimpArgs false
open Go.Proofs.Tryz renaming prog->xG
open List renaming take_add_one->vJ,length_append->zw,length_cons->zy,mem_cons_self->zb,mem_cons_of_mem->za,length_take->vK,append_nil->vL,take_of_length_le->wR,eq_nil_of_length_eq_zero->y4,range->zB,mem_filter->yz,mem_range->yY,filter_cons->z8,mem_cons->yD,all_eq_true->z6,replicate->yJ,map_cons->zG,map_nil->vP,getD_cons_zero->vQ,getD_cons_succ->vR,nil_append->vT,length_nil->vU,mem_iff_getElem?->vV
open Bool renaming and_eq_true->zC
open Go.Oper renaming uponIn->wa
open Go.CallsIn renaming mono->vM
open Go.RoundIn renaming mono->vN
open Go.Region renaming binds->yR,ready->yZ
open Option renaming map_some->zJ,getD_some->xu
open Array renaming mem_toList_iff->vO,all_eq_true'->xb,getD->z7,getD_eq_getD_getElem?->wO,getElem?_setIfInBounds_ne->wP
open Prod.mk renaming injEq->zS
namespace Go.Proofs
open Go Go.Sx
attribute [local irreducible] Go.Sx.Tri
theorem Own.keep{W V V':Mem}{e:TypeId}{sz:Nat}{s:Sl}{vs:List Value}{kb bb:Nat}(h:Sx.Own W V e sz s vs)(hk:CL kb bb V V')(z:W.sub V')(h1:∀c,V kb≠some (.cells c e (0,0)))(y:∀c,V bb≠some (.cells c e (0,0))):Sx.Own W V' e sz s vs:=⟨z,h.len,by
 rcases h.at_ with r|⟨g,cur,a,b,c,d⟩;·exact .inl r
 ·exact .inr ⟨g,cur,a,b,hk _ _ (λe=>h1 cur (by rw[<-e];exact c)) (λe=>y cur (by rw[<-e];exact c)) c,d⟩⟩
section
variable{W V:Mem}{d:Ds}{m:Mm}{p kb bb:Nat}{kn:Int×Int->Option Int}{bz:Int×Int->Bool}
theorem Bw.kMap(M:Bw W d m p kb bb V kn bz){e:TypeId}:∀c,V kb≠some (.cells c e (0,0)):=λc hc=>by
 obtain⟨y,r,z,-⟩:=M.known.at_;rw[z]at hc;cases hc
theorem Bw.bMap(M:Bw W d m p kb bb V kn bz){e:TypeId}:∀c,V bb≠some (.cells c e (0,0)):=λc hc=>by
 obtain⟨y,r,z,-⟩:=M.busy.at_;rw[z]at hc;cases hc
structure CX (W:Mem)(d:Ds)(m:Mm)(p kb bb:Nat)(V:Mem)(s:Sl)(xs:List (KB×Int)):Prop where
 own:Sx.Own W V 49 2 s (xs.flatMap Fa)
 mach:∃kn,Bw W d m p kb bb V kn H3/\KnOk d m kn
theorem CX.hold(S:CV W d m p kb bb){s:Sl}{xs:List (KB×Int)}(h:CX W d m p kb bb V s xs){v:Iv}{x:Int}(hv:v∈d.invs)(r:This d m v.ty x):
  Tri xG 36 #[pv p,v.v,.int .i64 x] V λe V'=>e=.returned (.bool (EK d m v.x x))/\CX W d m p kb bb V' s xs:=by
 obtain⟨kn,M,K⟩:=h.mach;refine Tri.mono (Ml S M K hv r) ?_;rintro _ V' ⟨rfl,hk,z,y,q⟩;exact⟨rfl,Own.keep h.own hk y.sub M.kMap M.bMap,z,y,q⟩
theorem CX.add{s:Sl}{xs:List (KB×Int)}(h:CX W d m p kb bb V s xs){y:KB×Int}{t:Nat}{ty:Nat}{a b:Operand}{vals:Operand->Value}{q:Value->Mem->Prop}{r:Nat}(o:V r=none)
  (ha:vals a=.slice s.p s.n s.c) (hb:vals b=.slice (sa r) 1 1) (z:xs.length+1<=2147483648) (Y:∀s' V',CX W d m p kb bb V' s' (xs++[y])->q (.slice s'.p s'.n s'.c) V'):
  GenK xG (.call {callee:=.builtin .append,args:=#[a,b],argTypes:=#[55,55]}) ty vals (V.set r (.cells (Fa y).toArray t (0,0))) q:=by
 obtain⟨kn,M,K⟩:=h.mach;refine app55 (s:=s) (u:=⟨some ⟨r,0,none⟩,1,1⟩) (xs:=xs) (ys:=[y]) ha hb ((h.own.but).new o _) (Ad.cells (xs:=[y]) (row:=Fa) Ao (by simp) (λ_=>rfl) rfl (by simp)) (by simpa using z) λs' V' ho=>Y s' V' ⟨ho.narrow h.own.sub_but,kn,⟨(h.own.sub_but).trans ho.sub,?_,?_,?_⟩,K⟩;·exact ho.sub _ _ (Mem.but_at M.at_ (h.own.apart λO hc=>by rw[M.at_]at hc;cases hc))
 ·obtain⟨H,J,G,Z⟩:=M.known.at_;exact⟨H,J,ho.sub _ _ (Mem.but_at G (h.own.apart M.kMap)),Z⟩
 ·obtain⟨H,J,G,Z⟩:=M.busy.at_;exact⟨H,J,ho.sub _ _ (Mem.but_at G (h.own.apart M.bMap)),Z⟩
theorem Mem.set_sub{A B:Mem}(h:A.sub B)(b:Nat)(o:Obj):(A.set b o).sub (B.set b o):=λc x hc=>by
 by_cases e:c=b;·subst e;rw[Mem.set_same]at hc⊢;exact hc
 ·rw[Mem.set_ne e]at hc⊢;exact h _ _ hc
theorem CX.wide{s:Sl}{xs:List (KB×Int)}(h:CX W d m p kb bb V s xs){b:Nat}(hb:V b=none)(o:Obj):CX (W.set b o) d m p kb bb (V.set b o) s xs:=by
 obtain⟨kn,M,K⟩:=h.mach;have z:=Mem.set_sub h.own.sub b o;refine⟨⟨z,h.own.len,?_⟩,kn,⟨z,(M.grow (Mem.sub_new hb o)).at_,(M.grow (Mem.sub_new hb o)).known,(M.grow (Mem.sub_new hb o)).busy⟩,K⟩;rcases h.own.at_ with y|⟨g,cur,a,b',c,dd⟩;·exact .inl y
 ·have hne:g≠b:=λe=>by rw[e,hb]at c;cases c
  exact .inr ⟨g,cur,a,by rw[Mem.set_ne hne];exact b',by rw[Mem.set_ne hne];exact c,dd⟩
theorem CX.narrow{z:Mem}{s:Sl}{xs:List (KB×Int)}(h:CX z d m p kb bb V s xs)(y:W.sub z):CX W d m p kb bb V s xs:=by
 obtain⟨kn,M,K⟩:=h.mach;exact⟨h.own.narrow y,kn,⟨y.trans M.sub,M.at_,M.known,M.busy⟩,K⟩
theorem CX.wideS(S:CV W d m p kb bb){s:Sl}{xs:List (KB×Int)}(h:CX W d m p kb bb V s xs){b:Nat}(hb:V b=none)(o:Obj):CV (W.set b o) d m p kb bb:=by
 obtain⟨kn,M,K⟩:=h.mach;have y:W b=none:=by
  cases hc:W b with
  |none=>rfl
  |some x=>rw[M.sub _ _ hc]at hb;cases hb
 have z:=Mem.sub_new y o;obtain⟨H,J,r,-⟩:=M.known.at_;obtain⟨G,c2,q,-⟩:=M.busy.at_;refine⟨S.good,S.ds.sub z,S.mm.sub z,?_,?_,?_,S.pk,S.pb,S.kb⟩;·rw[Mem.set_ne λe=>by rw[<-e,M.at_]at hb;cases hb];exact S.p0
 ·rw[Mem.set_ne λe=>by rw[<-e,r]at hb;cases hb];exact S.k0
 ·rw[Mem.set_ne λe=>by rw[<-e,q]at hb;cases hb];exact S.b0
theorem Kw{v:Iv}{l:List Int}{j:Nat}{n:Int}(hn:l[j]?=some n):BZ d m v (l.take (j+1))=BZ d m v (l.take j)++if CW d m v n=true then[(v.name,n)]else[]:=by
 unfold BZ;rw[vJ,hn,List.filter_append,List.map_append];by_cases h:CW d m v n=true<;>simp[h]
theorem allOf_len{v:Iv}{l:List Int}:(BZ d m v l).length<=l.length:=by
 unfold BZ;rw[List.length_map];exact List.length_filter_le _ _
theorem flat_len{l:List Iv}(h:∀v∈l,(B0 d m v).length<=4097):(l.flatMap λv=>BZ d m v (B0 d m v)).length<=l.length*4097:=by
 induction l with
 |nil=>simp
 |cons v l z=>
  rw[List.flatMap_cons,zw,zy,Nat.add_mul];have h1:=allOf_len (d:=d) (m:=m) (v:=v) (l:=B0 d m v);have r:=h v zb;have q:=z λx y=>h x (za _ y);omega
theorem validD_lens(h:A7 d=true):d.invs.length<=12:=by
 unfold A7 at h;simp only[zC]at h;obtain⟨⟨⟨⟨_,z⟩,-⟩,-⟩,-⟩:=h;unfold lensB at z;have:=of_decide_eq_true z;omega
theorem nodes_ty(G:Am d m){x:Int}(h:0<=x/\x<=(m.nodes.length:Int)){v:Iv}(z:typV d m x=v.ty):This d m v.ty x:=z▸this_typ G h.1 h.2
theorem allRound(S:CV W d m p kb bb){s:Sl}{A:List (KB×Int)}{v:Iv}{ns:List Int}{j:Nat}{n:Int}(hv:v∈d.invs)(h:CX W d m p kb bb V s (A++BZ d m v (ns.take j)))(hn:ns[j]?=some n)(hr:0<=n/\n<=(m.nodes.length:Int))(hl:A.length+ns.length<=2147483000)(G:IR ((j:Int)+1))
  {J:KZ} (Z:∀s' V',CX W d m p kb bb V' s' (A++BZ d m v (ns.take (j+1)))->J [uL s',uI ((j:Int)+1)] V'):
  TT 35 #[uP (sa p),uI n] V λe V6=>∃r,e=rV (uS r)/\
   Br (r=v.ty)
   (TT 36 #[uP (sa p),uA #[uS v.name,uS v.ty,uI v.x.op,uI v.x.n,uS v.x.s,uL v.x.l],uI n] V6 λe H=>∃q,e=rV (uB q)/\
    Br (q=true)
    (IR ((j:Int)+1)/\J [uL s,uI ((j:Int)+1)] H)
    (Af [uS v.name,uI n] 49 H λY R=>
     GenK xG (.call {callee:=(.builtin .append),args:=#[(.tmp 64),(.tmp 69)],argTypes:=#[55,55]}) 55 (gv [(64,uL s),(69,.slice (Aa Y 0) (1:Int).toNat (1:Int).toNat)]) R λx X=>∃o,x=uL o/\
      IR ((j:Int)+1)/\J [uL o,uI ((j:Int)+1)] X))
   (IR ((j:Int)+1)/\J [uL s,uI ((j:Int)+1)] V6):=by
 obtain⟨kn,M,-⟩:=h.mach;have L:=allOf_len (d:=d) (m:=m) (v:=v) (l:=ns.take j);have B:(ns.take j).length<=ns.length:=by rw[vK];omega
 refine(Me S M hr).call ⟨_,rfl,λz=>?_,λz=>⟨G,Z s V ?_⟩⟩
 ·have z:typV d m n=v.ty:=z;refine Tri.mono (h.hold S hv (nodes_ty S.good hr z)) ?_;rintro _ H ⟨rfl,h7⟩;refine⟨_,rfl,λO=>⟨G,Z s H ?_⟩,λO K I=>h7.add (y:=(v.name,n)) I rfl rfl (by rw[zw];omega) λs' V' D=>⟨s',rfl,G,Z s' V' ?_⟩⟩
  ·rw[Kw hn];have hb:CW d m v n=false:=by unfold CW;rw[show EK d m v.x n=true from O,Bool.not_true,Bool.and_false]
   rw[hb,if_neg (by decide),vL];exact h7
  ·rw[Kw hn];have hb:CW d m v n=true:=by unfold CW;rw[decide_eq_true z,(Bool.not_eq_true _).mp O];rfl
   rw[hb,if_pos rfl,<-List.append_assoc];exact D
 ·have z:¬typV d m n=v.ty:=z;rw[Kw hn];have hb:CW d m v n=false:=by unfold CW;rw[decide_eq_false z,Bool.false_and]
  rw[hb,if_neg (by decide),vL];exact h
end
section
variable{V:Mem}{d:Ds}{m:Mm}
def Mem.no3(V:Mem)(a b c:Nat):Mem:=λx=>if x=a∨x=b∨x=c then none else V x
theorem no3_sub(V:Mem)(a b c:Nat):(Mem.no3 V a b c).sub V:=λx o h=>by
 unfold Mem.no3 at h;split at h;·cases h
 ·exact h
theorem no3_at{a b c x:Nat}{o:Obj}(h:V x=some o)(h1:x≠a)(z:x≠b)(y:x≠c):Mem.no3 V a b c x=some o:=by
 unfold Mem.no3;rw[if_neg (by simp[h1,z,y])];exact h
theorem Kx{a b c x:Nat}(h:x=a∨x=b∨x=c):Mem.no3 V a b c x=none:=by
 unfold Mem.no3;rw[if_pos h]
theorem Mo[Tab V](hd:Ds.Ok V d)(hm:Mm.Ok V m):Tri xG 12 #[d.v,m.v] V λe V'=>V.sub V'/\((Am d m/\∃s:Sl,e=.returned (.tuple #[.slice s.p s.n s.c,.int .i64 0])/\Ad V' s 2 ((allP d m).map Fa))∨(¬Am d m/\e=.returned (.tuple #[.slice none 0 0,.int .i64 1]))):=by
 refine OI ?_;refine Tri.mono (Mk hd hm) ?_;rintro _ V1 (⟨p,kb,bb,rfl,S,M⟩|⟨hG,rfl,hs⟩);rotate_left;·exact⟨_,_,rfl,λh=>absurd h (by decide),λ_=>⟨hs,.inr ⟨hG,rfl⟩⟩⟩
 have G:=S.good;haveI:Tab V1:=Tab.sub (V:=V) inferInstance M.sub;refine⟨_,_,rfl,λ_=>Tri.mono (Pg G.valid G.mem (hd.sub M.sub) (hm.sub M.sub)) ?_,λh=>absurd rfl h⟩;rintro _ V2 ⟨o,rfl,ho,hcap,hrng⟩;refine⟨o,_,rfl,λ_=>?_,λh=>absurd rfl h⟩;have M2:=M.grow ho.sub;have hsW:=no3_sub V2 p kb bb;have H:V.sub (Mem.no3 V2 p kb bb):=λc x hc=>no3_at (M2.sub _ _ hc) (λe=>by rw[e,S.p0]at hc;cases hc) (λe=>by rw[e,S.k0]at hc;cases hc) (λe=>by rw[e,S.b0]at hc;cases hc);have S':CV (Mem.no3 V2 p kb bb) d m p kb bb:=⟨G,hd.sub H,hm.sub H,Kx (.inl rfl),Kx (.inr (.inl rfl)),Kx (.inr (.inr rfl)),S.pk,S.pb,S.kb⟩;have hoW:Ad (Mem.no3 V2 p kb bb) o 1 ((BM d m).order.map AE):=by
  have:Sx.Own (λ_=>none) (Mem.no3 V2 p kb bb) 3 1 o ((BM d m).order.flatMap AE):=⟨(λ_ _ h=>by cases h),ho.len,by
   rcases ho.at_ with h|⟨g,cur,a,b,c,dd⟩;·exact .inl h
   ·refine .inr ⟨g,cur,a,rfl,no3_at c (λe=>?_) (λe=>?_) (λe=>?_),dd⟩;·rw[e,M.at_]at b;cases b
    ·obtain⟨e1,c1,k1,-⟩:=M.known.at_;rw[e,k1]at b;cases b
    ·obtain⟨e1,c1,k1,-⟩:=M.busy.at_;rw[e,k1]at b;cases b⟩
  exact this.rows (λ_=>rfl) (by decide)
 have hnl:∀v:Iv,(B0 d m v).length<=4097:=λv=>by
  unfold B0;have:=(BX G.mem).2.1;split;·simp
  ·omega
 have hil:=validD_lens G.valid;refine DB (mk:=λs:Sl=>.slice s.p s.n s.c) (b0:=⟨none,0,0⟩) AT d.invs.length (λi s V3=>CX (Mem.no3 V2 p kb bb) d m p kb bb V3 s ((d.invs.take i).flatMap λv=>BZ d m v (B0 d m v))) ⟨Own.nil hsW _ _,Ku,⟨hsW,M2.at_,M2.known,M2.busy⟩,λ_ _ h=>by cases h⟩ ?_;rintro i s V3 J hi I hJ;have Z:=(hd.sub H).sub I.own.sub;refine⟨λY=>?_,λhge=>?_⟩
 ·obtain⟨v,hvm,hv,-,hil',hp,hz,hrow⟩:=Z.invs.get Y;have hflat:=flat_len (d:=d) (m:=m) (l:=d.invs.take i) λv _=>hnl v;have htl:(d.invs.take i).length<=12:=by rw[vK];omega
  have hA:((d.invs.take i).flatMap λv=>BZ d m v (B0 d m v)).length+(B0 d m v).length<=2147483000:=by
   have:=hnl v;have:(d.invs.take i).length*4097<=12*4097:=Nat.mul_le_mul_right _ htl;omega
  have next:∀s' V',CX (Mem.no3 V2 p kb bb) d m p kb bb V' s' (((d.invs.take i).flatMap λv=>BZ d m v (B0 d m v))++BZ d m v (B0 d m v))->J [uL s',uI ((i:Int)+1)] V':=λs' V' h=>hJ hil' _ _ (by
   rw[vJ,hv,List.flatMap_append];simpa using h)
  refine⟨hp,hz,Y,_,_,_,_,_,_,hrow,λL=>λtb O=>?_,λL=>?_⟩
  ·have L:v.ty=sE:=L;have R:B0 d m v=[0]:=by unfold B0;rw[if_pos L]
   rw[R]at hA next
   have hwS:=I.wideS S' O (.cells #[.int .i64 0] 3 (0,0));have hw3:=I.wide O (.cells #[.int .i64 0] 3 (0,0));have hW0:Mem.no3 V2 p kb bb tb=none:=by
    cases hc:Mem.no3 V2 p kb bb tb with
    |none=>rfl
    |some x=>rw[I.own.sub _ _ hc]at O;cases O
   have hsub:=Mem.sub_new hW0 (.cells #[.int .i64 0] 3 (0,0));have X:Ad ((Mem.no3 V2 p kb bb).set tb (.cells #[.int .i64 0] 3 (0,0))) ⟨some ⟨tb,0,none⟩,1,1⟩ 1 ([(0:Int)].map AE):=H4 Ao;refine DB (mk:=λs:Sl=>.slice s.p s.n s.c) (b0:=s) AT 1 (λj s' V'=>CX ((Mem.no3 V2 p kb bb).set tb (.cells #[.int .i64 0] 3 (0,0))) d m p kb bb V' s' (((d.invs.take i).flatMap λv=>BZ d m v (B0 d m v))++BZ d m v ([0].take j))) ?_ ?_;·simpa [BZ]using hw3
   ·rintro j s4 V4 J1 hj A B;have q:=X.sub A.own.sub;refine⟨λz=>?_,λr=>?_⟩
    ·obtain⟨n,D,hn,-,K,hpo,T,y⟩:=q.get (i:=j) z;have hn0:n=0:=by simpa using D
     exact⟨nn,T,z,_,y,allRound hwS hvm A hn ⟨by omega,by omega⟩ hA (q.succ (i:=j) z) λs' V' h'=>B K _ _ h'⟩
    ·have r:¬(j:Int)<1:=r;rw[show([0]:List Int).take j=[0]from wR (by show 1<=j;omega)]at A;exact⟨Z.invs.succ Y,next _ _ (A.narrow hsub)⟩
  ·have L:¬v.ty=sE:=L;have R:B0 d m v=(BM d m).order:=by unfold B0;rw[if_neg L]
   rw[R]at hA next
   refine DB (mk:=λs:Sl=>.slice s.p s.n s.c) (b0:=s) AT (BM d m).order.length (λj s' V'=>CX (Mem.no3 V2 p kb bb) d m p kb bb V' s' (((d.invs.take i).flatMap λv=>BZ d m v (B0 d m v))++BZ d m v ((BM d m).order.take j))) ?_ ?_;·simpa [BZ]using I
   ·rintro j s4 V4 J1 hj A B;have q:=hoW.sub A.own.sub;refine⟨λz=>?_,λr=>?_⟩
    ·obtain⟨n,D,hn,-,K,hpo,T,y⟩:=q.get z;have hr:=hrng n D;exact⟨hpo,T,z,_,y,allRound S' hvm A hn ⟨by omega,hr.2⟩ hA (q.succ z) λs' V' h'=>B K _ _ h'⟩
    ·have U:=(q.done r).2;rw[wR U]at A;exact⟨Z.invs.succ Y,next _ _ A⟩
 ·have U:=(Z.invs.done hge).2;rw[wR U]at I;exact⟨H.trans I.own.sub,.inl ⟨G,s,rfl,I.own.rows (λ_=>rfl) (by decide)⟩⟩
theorem rowp_add0(V:Mem)(p:Option Addr)(k n:Nat):V.rowp (Aa p k) 0 n=V.rowp p k n:=by
 cases p with
 |none=>rfl
 |some a=>
  show V.row ((a.add k).add 0) n=V.row (a.add k) n;rw[add_add,Nat.add_zero]
inductive CheP (d:Ds)(m:Mm):Bool->KB->Int->Int->Prop where
 |arg (h:¬Am d m):CheP d m false sE 0 1
 |ok (h:Am d m) (h1:allP d m=[]):CheP d m true sE 0 0
 |bad (h:Am d m) {x:KB×Int} {l:List (KB×Int)} (h1:allP d m=x::l):CheP d m false x.1 x.2 0
theorem Ph[Tab V](Z:Ds.Ok V d)(hm:Mm.Ok V m):Tri xG 71 #[d.v,m.v] V λe V'=>V'=V/\∃b s x f,e=.returned (.tuple #[.bool b,.agg #[.string s,.int .i64 x],.int .i64 f])/\CheP d m b s x f:=by
 refine Tri.less ?_;refine Oe ?_;refine Tri.mono (Mo Z hm) ?_;rintro _ V1 ⟨q,⟨G,s,rfl,hr⟩|⟨Y,rfl⟩⟩
 ·refine⟨s,_,rfl,λ_=>⟨λy=>?_,λo=>?_⟩,λh=>absurd rfl h⟩
  ·obtain⟨x,O,A,r,hl,H,J,z⟩:=hr.get (i:=0) y;refine⟨H,J,y,_,_,z,(rowp_add0 _ _ _ _).trans z,H,J,y,V,⟨rfl,_,_,_,_,rfl,.bad (l:=(allP d m).drop 1) G (by rw[List.drop_zero]at r;exact r)⟩,q⟩
  ·have:=(hr.done (i:=0) o).2;exact⟨V,⟨rfl,_,_,_,_,rfl,.ok G (y4 (by omega))⟩,q⟩
 ·exact⟨⟨none,0,0⟩,_,rfl,λh=>absurd h (by decide),λ_=>⟨V,⟨rfl,_,_,_,_,rfl,.arg Y⟩,q⟩⟩
end
end Go.Proofs
namespace Go.Sx
open Go
section
variable{P:Program}{n:Nat}{ops:Array Oper}{Q:Exit->Act->World->Prop}
theorem Mp{F:Fence}{i:Nat}{o:Oper}{a:Act}{w:World}{K:Act->World->Prop}(ho:ops[i]?=some o)(H:o.guard=none)(h:wpOpIn F n P ops Q i K a w):wpOpIn F n P ops Q i (λq w'=>(∃v,q.tmps=(a.put o.dst v).tmps)/\K q w') a w:=by
 unfold wpOpIn at*
 simp only[ho]at*
 have hw:=Fx (ops:=ops) (a:=a) H;rw[if_pos hw]at h⊢;unfold Oper.wpIn at*
 refine⟨h.1,?_⟩;have h:=h.2;generalize(o.semAt F.round a.eval).run P w=r at*
 have z:∀(ds:List Deferred)(v:Value),(({a with defers:=ds}:Act).put o.dst v).tmps=(a.put o.dst v).tmps:=λds v=>by
  cases o.dst<;>rfl
 cases r with
 |ok x w'=>
  cases x<;>simp only[wa]at h⊢<;>
   first
    |exact⟨⟨_,rfl⟩,h⟩
    |exact⟨⟨_,z _ _⟩,h⟩
    |exact⟨h.1,vM h.2 (λe y he=>by cases e<;>first|exact⟨⟨_,rfl⟩,he⟩|exact he)⟩
    |exact⟨h.1,RowsIn.mono h.2 (λ_ _ he=>⟨⟨_,rfl⟩,he⟩)⟩
    |exact⟨h.1,vN h.2 (λe y he=>by cases e<;>first|exact⟨⟨_,rfl⟩,he⟩|exact he)⟩
    |exact h
 |halt x w'=>cases x<;>simp only[wa]at h⊢<;>exact h
theorem Mq{F:Fence}{i:Nat}{o:Oper}{a:Act}{w:World}{K H:Act->World->Prop}{z:Exit->Act->World->Prop}(ho:ops[i]?=some o)(J:o.guard=none)(h:wpOpIn F n P ops z i K a w)(y:∀G a w,¬z (.panic G) a w)(hl:¬LetsOut z)(hK:∀a w,K a w->H a w):
  wpOpIn F n P ops Q i H a w:=by
 unfold wpOpIn at*
 simp only[ho]at*
 have hw:=Fx (ops:=ops) (a:=a) J;rw[if_pos hw]at h⊢;unfold Oper.wpIn at*
 refine⟨h.1,?_⟩;have h:=h.2;generalize(o.semAt F.round a.eval).run P w=r at*
 cases r with
 |ok x w'=>
  cases x<;>simp only[wa]at h⊢<;>
   first
    |exact hK _ _ h
    |exact⟨h.1,vM h.2 (λe q he=>by cases e<;>first|exact hK _ _ he|exact(y _ _ _ he).elim|exact(hl he).elim)⟩
    |exact⟨h.1,RowsIn.mono h.2 (λ_ _ he=>hK _ _ he)⟩
    |exact⟨h.1,vN h.2 (λe q he=>by cases e<;>first|exact hK _ _ he|exact(y _ _ _ he).elim|exact(hl he).elim)⟩
    |exact h
 |halt x w'=>
  cases x<;>simp only[wa]at h⊢;all_goals first|exact(y _ _ _ h).elim|exact h
def F6(ops:Array Oper)(i:Nat):List Nat:=((ops[i]?).map λo=>(o.after.toList.filter (yR .any)).map (·.on)).getD []
def anyOk(ops:Array Oper)(M k0:Nat)(deps:Nat->List Nat):Bool:=
 decide (ops.size=M+1)&&decide ((ops[M]?).map (·.dst)=some none)&&(zB M).all (λi=>decide ((ops[i]?).map (·.dst)=some (some (k0+i))))&&(zB (M+1)).all (λi=>((ops[i]?).map λo=>o.guard.isNone).getD false&&(F6 ops i).all (λj=>decide (j<i))&&(deps i).all λj=>decide (j∈F6 ops i)) &&
  (zB M).all λj=>(zB (M+1)).any λi=>decide (j<i)&&decide (j∈F6 ops i)
theorem Mr{ops:Array Oper}{listed:Array Bool}{i:Nat}(h:i∈yZ .any ops listed):i<ops.size/\listed.getD i true=false/\∀j∈F6 ops i,listed.getD j false=true:=by
 unfold yZ at h;rw[yz,yY,zC]at h;refine⟨h.1,by simpa using h.2.1,λj z=>?_⟩;unfold F6 at z;have y:=h.2.2;cases ho:ops[i]? with
 |none=>rw[ho]at z;simp at z
 |some o=>
  rw[ho]at z y;simp only[zJ,xu,List.mem_map,yz,vO,xb]at z y;obtain⟨e,⟨he,hb⟩,rfl⟩:=z;have:=y e he;rw[hb]at this;simpa using this
theorem ready_in{ops:Array Oper}{listed:Array Bool}{i:Nat}(hi:i<ops.size)(h1:listed.getD i true=false)(z:∀j∈F6 ops i,listed.getD j false=true):i∈yZ .any ops listed:=by
 unfold yZ;rw[yz,yY,zC];refine⟨hi,by simp[h1],?_⟩;have ho:ops[i]?=some ops[i]:=Array.getElem?_eq_getElem hi;unfold F6 at z;rw[ho]at z⊢;simp only[zJ,xu,List.mem_map,yz,vO,xb]at z⊢;intro e he;cases hb:yR .any e with
 |false=>rfl
 |true=>simpa using z e.on ⟨e,⟨he,hb⟩,rfl⟩
theorem Jb{l:Array Bool}{i:Nat}(hi:i<l.size)(a b:Bool):l.getD i a=l.getD i b:=by simp[z7,hi]
def unl(listed:Array Bool)(M:Nat):Nat:=((zB M).filter λi=>!listed.getD i true).length
theorem filt_le{α:Type}{p q:α->Bool}:∀{l:List α},(∀a∈l,q a=true->p a=true)->(l.filter q).length<=(l.filter p).length
 |[],_=>Nat.le_refl _
 |a::l,h=>by
  have z:=filt_le (l:=l) λx y=>h x (za _ y);have ha:=h a zb;rw[z8,z8];cases r:q a with
  |true=>rw[ha r];simpa using z
  |false=>
   cases o:p a with
   |true=>simp;omega
   |false=>simpa using z
theorem filt_lt{α:Type}{p q:α->Bool}:∀{l:List α},(∀a∈l,q a=true->p a=true)->∀a∈l,p a=true->q a=false->(l.filter q).length<(l.filter p).length
 |[],_,a,ha,_,_=>by cases ha
 |b::l,h,a,ha,y,r=>by
  have o:∀x∈l,q x=true->p x=true:=λx J=>h x (za _ J);rw[z8,z8];rcases yD.1 ha with rfl|hm
  ·rw[y,r];have:=filt_le o;simp;omega
  ·have H:=filt_lt o a hm y r;have hb:=h b zb;cases z:q b with
   |true=>rw[hb z];simpa using H
   |false=>
    cases G:p b with
    |true=>simp;omega
    |false=>simpa using H
theorem unl_set{listed:Array Bool}{M i:Nat}(hi:i<M)(r:listed.size=M)(h:listed.getD i true=false):unl (listed.setIfInBounds i true) M<unl listed M:=by
 have h1:(listed.setIfInBounds i true).getD i true=true:=by simp[z7,r,hi]
 refine filt_lt (λj _ z=>?_) i (yY.2 hi) (by rw[h];rfl) (by rw[h1];rfl);by_cases y:j=i;·subst y;rw[h1]at z;cases z
 ·have:(listed.setIfInBounds i true).getD j true=listed.getD j true:=by
   simp[wO,wP (Ne.symm y)]
  rw[this]at z;exact z
theorem unl_zero{listed:Array Bool}{M:Nat}(y:listed.size=M)(h:unl listed M=0):∀i,i<M->listed.getD i false=true:=λi z=>by
 unfold unl at h;have:=y4 h;rw[List.filter_eq_nil_iff]at this;have:=this i (yY.2 z);rw[Jb (by omega) false true];simpa using this
section
variable{M k0 N:Nat}{deps:Nat->List Nat}{Pr:Nat->Value->Mem->Prop}{Φ:Mem->Prop}{V:Mem}{base:List (Nat×Value)}{a0:Act}{w0:World}
theorem anyR_sound(chk:anyOk ops M k0 deps=true)(mono:∀i v V1 V2,V1.sub V2->Pr i v V1->Pr i v V2)(U:∀s v,base.lookup s=some v->s<k0)
  (hN:k0+M<=N)
  (hstep:∀i,i<M->∀V1,V.sub V1->∀val:Nat->Value,(∀j∈deps i,Pr j (val j) V1)->∃y,(∀s v,y.lookup s=some v->base.lookup s=some v∨∃j∈deps i,s=k0+j/\v=val j)/\Aw P N ops i 1 y [k0+i] V1 λvs V2=>∃v,vs=[v]/\V1.sub V2/\Pr i v V2)
  (hlast:∀V1,V.sub V1->∀val:Nat->Value,(∀j∈deps M,Pr j (val j) V1)->∃y,(∀s v,y.lookup s=some v->base.lookup s=some v∨∃j∈deps M,s=k0+j/\v=val j)/\Aw P N ops M 1 y [] V1 λ_ V2=>Φ V2)
  (hQ:∀R w' V',R.defers=a0.defers->Has N R base->Φ V'->Aq V w0 V' w'->Q .normal R w'):
  ∀(fuel:Nat)(listed:Array Bool)(a:Act)(w:World),listed.size=M+1->unl listed (M+1)<=fuel->
   ((∃V1,V.sub V1/\Aq V w0 V1 w/\a.defers=a0.defers/\Has N a base/\listed.getD M false=false/\(∀i,i<M->listed.getD i false=true->Pr i (a.tmps.getD (k0+i) undef) V1)/\∀i,i<M->listed.getD i false=true->∀j∈F6 ops i,listed.getD j false=true)∨((∀i,i<M+1->listed.getD i false=true)/\Q .normal a w))->
   wpAnyIn (Au none) n P .any ops Q fuel listed a w:=by
 unfold anyOk at chk;simp only[zC,decide_eq_true_eq,z6,yY,List.any_eq_true]at chk;obtain⟨⟨⟨⟨c1,c0⟩,c2⟩,c3⟩,c4⟩:=chk;have op:∀i,i<M+1->∃o,ops[i]?=some o/\o.guard=none:=λi hi=>by
  have:=(c3 i hi).1.1;cases ho:ops[i]? with
  |none=>rw[ho]at this;cases this
  |some o=>
   rw[ho]at this;refine⟨o,rfl,?_⟩;cases hg:o.guard with
   |none=>rfl
   |some g=>simp[hg]at this
 have H:∀listed:Array Bool,listed.size=M+1->yZ .any ops listed=[]->∀i,i<M+1->listed.getD i false=true:=λlisted hs hr i=>by
  induction i using Nat.strongRecOn with
  |ind i ih=>
   intro hi;cases h:listed.getD i false with
   |true=>rfl
   |false=>
    have:i∈yZ .any ops listed:=ready_in (by omega) (by rw[Jb (by omega) true false];exact h) λj Z=>by
     have r:=(c3 i hi).1.2 j Z;exact ih j r (by omega)
    rw[hr]at this;cases this
 intro fuel;induction fuel with
 |zero=>
  intro listed a w hs hu hI;have q:=unl_zero hs (by omega);rw[wpAnyIn];rcases hI with⟨V1,-,-,-,-,hM,-⟩|⟨-,hq⟩;·rw[q M (by omega)]at hM;cases hM
  ·refine⟨?_,hq⟩;cases hr:yZ .any ops listed with
   |nil=>rfl
   |cons i l=>
    obtain⟨h1,h2,-⟩:=Mr (hr▸zb:i∈yZ .any ops listed);rw[Jb (by omega) true false,q i (by omega)]at h2;cases h2
 |succ fuel ih=>
  intro listed a w hs hu hI;rw[wpAnyIn];refine⟨λhr=>?_,λi hi=>?_⟩
  ·rcases hI with⟨V1,-,-,-,-,hM,-⟩|⟨-,hq⟩;·rw[H listed hs hr M (by omega)]at hM;cases hM
   ·exact hq
  ·obtain⟨h1,h2,h3⟩:=Mr hi;have J:i<M+1:=by omega
   rcases hI with⟨V1,Y,hF,hdf,hH,hM,hP,hC⟩|⟨q,-⟩;rotate_left;·rw[Jb (by omega) true false,q i J]at h2;cases h2
   obtain⟨o,ho,hg⟩:=op i J;have hs':(listed.setIfInBounds i true).size=M+1:=by simp[hs]
   have hu':unl (listed.setIfInBounds i true) (M+1)<=fuel:=by have:=unl_set J hs h2;omega
   have G:(listed.setIfInBounds i true).getD i false=true:=by simp[z7,hs,J]
   have z:∀j,j≠i->(listed.setIfInBounds i true).getD j false=listed.getD j false:=λj Z=>by
    simp[wO,wP (Ne.symm Z)]
   have hdeps:∀j∈deps i,j<i/\listed.getD j false=true:=λj Z=>⟨(c3 i J).1.2 j ((c3 i J).2 j Z),h3 j ((c3 i J).2 j Z)⟩;have D:∀j∈deps i,Pr j (a.tmps.getD (k0+j) undef) V1:=λj Z=>by
    have:=hdeps j Z;exact hP j (by omega) this.2
   have hin:∀(y:List (Nat×Value)),(∀s v,y.lookup s=some v->base.lookup s=some v∨∃j∈deps i,s=k0+j/\v=a.tmps.getD (k0+j) undef)->∀s v,y.lookup s=some v->a.tmps.getD s undef=v:=λy h s v hl=>by
    rcases h s v hl with h|⟨j,-,rfl,rfl⟩;·exact hH.2 s v h
    ·rfl
   by_cases X:i<M
   ·obtain⟨y,O,A⟩:=hstep i X V1 Y (λj=>a.tmps.getD (k0+j) undef) D;have hw:=A none n a w hF.le hH.1 (hin y O);rw[show List.range' i 1=[i]from rfl,wpOpsIn_cons]at hw;have I:o.dst=some (k0+i):=by have:=c2 i X;rw[ho]at this;simpa using this
    have hfin:wpOpIn (Au none) n P ops Q i (wpAnyIn (Au none) n P .any ops Q fuel (listed.setIfInBounds i true)) a w:=by
     refine Mq ho hg (Mp ho hg hw) (λ_ _ _ h=>by cases h.1) (λh=>by obtain⟨_,_,h,_⟩:=h;cases h) ?_;rintro R w' ⟨⟨v,hv⟩,-,hd',hs2,vs,V2,hlook,⟨u,rfl,L,hPu⟩,hF2⟩;rw[I]at hv;have K:∀s,s≠k0+i->R.tmps.getD s undef=a.tmps.getD s undef:=λs hne=>by
      rw[hv];simp[Act.put,wO,wP (Ne.symm hne)]
     refine ih _ R w' hs' hu' (.inl ⟨V2,Y.trans L,hF.trans hF2,hd'.trans hdf,⟨hs2,λs v B=>?_⟩,?_,λj Z hl=>?_,λj Z hl k hk=>?_⟩);·rw[K s (by have:=U s v B;omega)];exact hH.2 s v B
     ·rw[z M (by omega)];exact hM
     ·by_cases r:j=i
      ·subst r;have:=hlook (k0+j) u (by simp);rw[this];exact hPu
      ·rw[K (k0+j) (by omega)];rw[z j r]at hl;exact mono _ _ _ _ L (hP j Z hl)
     ·by_cases r:j=i
      ·subst r;by_cases hkj:k=j;·rw[hkj];exact G
       ·rw[z k hkj];exact h3 k hk
      ·rw[z j r]at hl;by_cases hki:k=i;·rw[hki];exact G
       ·rw[z k hki];exact hC j Z hl k hk
    exact hfin
   ·have X:i=M:=by omega
    subst X;have q:∀k,k<=i->∀j,i-k<=j->j<i->listed.getD j false=true:=λk=>by
     induction k with
     |zero=>intro _ j h4 h5;omega
     |succ k ihk=>
      intro hk j h4 h5;obtain⟨b,hb1,hb2,hb3⟩:=c4 j h5;by_cases hbi:b=i;·subst hbi;exact h3 j hb3
      ·exact hC b (by omega) (ihk (by omega) b (by omega) (by omega)) j hb3
    obtain⟨y,O,A⟩:=hlast V1 Y (λj=>a.tmps.getD (k0+j) undef) D;have hw:=A none n a w hF.le hH.1 (hin y O);rw[show List.range' i 1=[i]from rfl,wpOpsIn_cons]at hw;have I:o.dst=none:=by rw[ho]at c0;simpa using c0
    refine Mq ho hg (Mp ho hg hw) (λ_ _ _ h=>by cases h.1) (λh=>by obtain⟨_,_,h,_⟩:=h;cases h) ?_;rintro R w' ⟨⟨u,T⟩,-,hd',hs2,vs,V2,-,hΦ,hF2⟩;rw[I]at T;have hu3:R.tmps=a.tmps:=T;refine ih _ R w' hs' hu' (.inr ⟨λj Z=>?_,hQ R w' V2 (hd'.trans hdf) ⟨by rw[hu3];exact hH.1,λs v B=>by rw[hu3];exact hH.2 s v B⟩ hΦ (hF.trans hF2)⟩);by_cases r:j=i;·rw[r];exact G
    ·rw[z j r];exact q i (Nat.le_refl _) j (by omega) (by omega)
end
end
end Go.Sx
namespace Go.Proofs
open Go Go.Sx
attribute [local irreducible] Go.Sx.Tri
instance inI_dec (n:Int):Decidable (D7 n):=by unfold D7;infer_instance
section
variable{V V6:Mem}{s:Sl}{l:List Int}{last:Int}{m:Mm}
theorem F7{p q B X:Prop}(r:(¬p∨¬q)->X)(o:p->q->B):Br p (Br q B X) X:=⟨λz=>⟨λy=>o z y,λy=>r (.inr y)⟩,λz=>r (.inl z)⟩
end
section
variable{V:Mem}{d:Ds}{m:Mm}
def RI(V:Mem):Ending->Mem->Prop:=λe V'=>V=V'/\∃r:Int,e=.returned (.int .i64 r)/\-1<=r/\r<=2000
def RY(V:Mem):Ending->Mem->Prop:=λe V'=>V=V'/\∃b:Bool,e=.returned (.bool b)
theorem RI.mk{r:Int}(h:-1<=r/\r<=2000):RI V (.returned (.int .i64 r)) V:=⟨rfl,r,rfl,h⟩
theorem RY.mk{b:Bool}:RY V (.returned (.bool b)) V:=⟨rfl,b,rfl⟩
theorem leftC:∀(k:Nat),k<=65->∀(e:E)(n:Int),E.Ok V e->-1<=n->n<=2000->Tri xG 105 #[e.v,.int .i64 k,.int .i64 n] V (RI V):=by
 intro k;induction k with
 |zero=>
  intro _ e n he h1 Y;refine Tri.mono (x105 (R:=RI V) ?_) λ_ _ h=>h;exact⟨λ_=>.mk ⟨by omega,by omega⟩,λ_=>⟨λ_=>.mk ⟨by omega,by omega⟩,λh=>absurd rfl h⟩⟩
 |succ k O=>
  intro hk e n he h1 Y;refine Tri.mono (x105 (R:=RI V) ?_) λ_ _ h=>h;refine⟨λ_=>.mk ⟨by omega,by omega⟩,λZ=>⟨λ_=>.mk ⟨by omega,by omega⟩,λ_=>⟨λ_=>.mk ⟨by omega,by omega⟩,λ_=>⟨⟨by omega,by omega⟩,?_⟩⟩⟩⟩;have Z:¬n<=0:=Z;refine DB (mk:=.int .i64) (b0:=n-1) BG e.k.length (λi a V1=>V=V1/\-1<=a/\a<=2000) ⟨rfl,by omega,by omega⟩ ?_;rintro i a V1 J B ⟨rfl,y,q⟩ A;refine F7 (λ_=>.mk ⟨y,q⟩) (λz hn=>?_);obtain⟨x,H,D,-,G,I,L,o⟩:=he.rows.get z;refine⟨I,L,z,_,_,_,_,o,⟨by omega,by omega⟩,?_⟩;rw[show((k+1:Nat):Int)-1=(k:Int)by omega];refine Tri.mono (O (by omega) x a (he.kids x H) y q) ?_;rintro _ _ ⟨rfl,r,rfl,X⟩;exact⟨_,rfl,he.rows.succ z,A G _ _ ⟨rfl,X⟩⟩
theorem leftAllC:∀(k:Nat),k<=65->∀(s:Sl)(xs:List S)(n:Int),Ad V s 5 (xs.map S.row)->(∀x∈xs,S.Ok V x)->-1<=n->n<=2000->Tri xG 104 #[s.v,.int .i64 k,.int .i64 n] V (RI V):=by
 intro k;induction k with
 |zero=>
  intro _ s xs n hr ho h1 h2;refine Tri.mono (x104 (R:=RI V) ?_) λ_ _ h=>h;exact⟨λ_=>.mk ⟨by omega,by omega⟩,λh=>absurd rfl h⟩
 |succ k ih=>
  intro hk s xs n hr ho h1 h2;refine Tri.mono (x104 (R:=RI V) ?_) λ_ _ h=>h;refine⟨λ_=>.mk ⟨by omega,by omega⟩,λ_=>?_⟩;refine FO (mk:=.int .i64) (mc:=.int .i64) 0 n BG xs.length (λi a V1=>V=V1/\-1<=a/\a<=2000) ⟨rfl,h1,h2⟩ ?_;rintro i b a V1 J hi ⟨rfl,B,D⟩ K;refine F7 (λ_=>.mk ⟨B,D⟩) (λq hn=>?_);have hn:0<=a:=hn;obtain⟨x,T,hx,-,G,A,I,z⟩:=hr.get q;have U:=ho x T;cases x with
  |mk op sn el es ll ls xl xs'=>
  cases U with
  |mk he hes hl hls hxr hxs hop=>
  have L:=Ah (n:=i*5) A;have o:=hr.succ q;refine⟨⟨by omega,by omega⟩,A,I,q,L,_,_,_,_,_,z,λ_=>.mk ⟨by omega,by omega⟩,λ_=>?_⟩;refine DB (mk:=.int .i64) (b0:=a-1) BG es.length (λj c V2=>V=V2/\-1<=c/\c<=2000) ⟨rfl,by omega,by omega⟩ ?_;rintro j c V2 J1 hj ⟨rfl,Z,Y⟩ hJ1;have ek:((k+1:Nat):Int)-1=(k:Int):=by omega
  refine⟨A,I,q,L,_,_,_,_,_,z,F7 (λ_=>⟨λhc=>⟨A,I,q,L,_,_,_,_,_,z,⟨by omega,by omega⟩,?_⟩,λhc=>⟨λh=>absurd h hc,λ_=>⟨o,K G _ _ _ ⟨rfl,Z,Y⟩⟩⟩⟩) (λH hc=>?_)⟩
  ·rw[ek];refine Tri.mono (ih (by omega) ll ls c hl hls Z Y) ?_;rintro _ _ ⟨rfl,r,rfl,X⟩;refine⟨_,rfl,λhr0=>⟨A,I,q,L,_,_,_,_,_,z,⟨by omega,by omega⟩,Tri.mono (ih (by omega) xl xs' r hxr hxs X.1 X.2) ?_⟩,λ_=>⟨o,K G _ _ _ ⟨rfl,X⟩⟩⟩;rintro _ _ ⟨rfl,r2,rfl,h4⟩;exact⟨_,rfl,o,K G _ _ _ ⟨rfl,h4⟩⟩
  ·obtain⟨y,hym,hy,-,hjl,hpy,hzy,O⟩:=he.get H;refine⟨A,I,q,L,_,_,_,_,_,z,hpy,hzy,H,_,_,_,_,O,Tri.mono (leftC 65 (by omega) y c (hes y hym) Z Y) ?_⟩;rintro _ _ ⟨rfl,r,rfl,X⟩;exact⟨_,rfl,he.succ H,hJ1 hjl _ _ ⟨rfl,X⟩⟩
theorem wideC{l:Sl}{xs:List Fld}(hr:Ad V l 2 (xs.map Fld.row)):Tri xG 103 #[l.v] V (RY V):=by
 refine Tri.mono (x103 (R:=RY V) ?_) λ_ _ h=>h;refine⟨λ_=>.mk,λ_=>AK (mk:=.bool) (b0:=false) xs.length (λi V1=>V=V1) rfl ?_⟩;rintro i b V1 J Y rfl G;refine⟨λz=>?_,λ_=>.mk⟩;obtain⟨x,Z,O,-,r,q,o,y⟩:=hr.get z;have H:=Ah (n:=i*2) q;exact⟨q,o,z,H,_,_,y,λ_=>.mk,λ_=>⟨q,o,z,H,_,_,y,λ_=>.mk,λ_=>⟨hr.succ z,G r _ _ rfl⟩⟩⟩
theorem overC(Y:Ds.Ok V d){n:Int}(h1:-1<=n)(D:n<=2000):Tri xG 58 #[d.v,.int .i64 n] V (RY V):=by
 refine Tri.mono (N3 (R:=RY V) ?_) λ_ _ h=>h;refine⟨λ_=>.mk,λ_=>⟨λ_=>.mk,λ_=>⟨λ_=>.mk,λ_=>⟨λ_=>.mk,λ_=>⟨λ_=>.mk,λ_=>⟨λ_=>.mk,λ_=>⟨λ_=>.mk,λ_=>Tri.mono (wideC Y.globals) ?_⟩⟩⟩⟩⟩⟩⟩;rintro _ _ ⟨rfl,b,rfl⟩;refine⟨_,rfl,λ_=>.mk,λ_=>AK (mk:=.bool) (b0:=false) d.types.length (λi V1=>V=V1) rfl ?_⟩;rintro i b V1 J X rfl I;refine⟨λz=>?_,λ_=>?_⟩
 ·obtain⟨x,H,B,-,G,Z,O,y⟩:=Y.types.get z;have A:=Ah (n:=i*2) Z;refine⟨Z,O,z,A,_,_,y,λ_=>.mk,λ_=>⟨Z,O,z,A,_,_,y,Tri.mono (wideC (Y.typesOk x H).fields) ?_⟩⟩;rintro _ _ ⟨rfl,b,rfl⟩;exact⟨_,rfl,λ_=>.mk,λ_=>⟨Y.types.succ z,I G _ _ rfl⟩⟩
 refine FO (mk:=.bool) (mc:=.int .i64) b n BG d.procs.length (λi a V1=>V=V1/\-1<=a/\a<=2000) ⟨rfl,h1,D⟩ ?_;rintro i b a V1 J X ⟨rfl,q,o⟩ I;refine F7 (λ_=>?_) (λz hn=>?_);rotate_left
 ·obtain⟨x,H,B,-,G,Z,O,y⟩:=Y.procs.get z;have ho:=Y.procsOk x H;refine⟨Z,O,z,_,_,_,_,_,y,λ_=>.mk,λ_=>⟨λ_=>.mk,λ_=>Tri.mono (wideC ho.params) ?_⟩⟩;rintro _ _ ⟨rfl,b1,rfl⟩;refine⟨_,rfl,λ_=>.mk,λ_=>Tri.mono (wideC ho.locals) ?_⟩;rintro _ _ ⟨rfl,b2,rfl⟩;refine⟨_,rfl,λ_=>.mk,λ_=>Tri.mono (leftAllC 65 (by omega) x.bs x.body a ho.body ho.stmts q o) ?_⟩;rintro _ _ ⟨rfl,r,rfl,L⟩;exact⟨_,rfl,Y.procs.succ z,I G _ _ _ ⟨rfl,L⟩⟩
 refine FO (mk:=.bool) (mc:=.int .i64) b a BG d.measures.length (λi a V1=>V=V1/\-1<=a/\a<=2000) ⟨rfl,q,o⟩ ?_;clear I;rintro i b a V1 J X ⟨rfl,q,o⟩ I;refine F7 (λ_=>?_) (λz hn=>?_);rotate_left
 ·obtain⟨x,H,B,-,G,Z,O,y⟩:=Y.measures.get z;have A:=Ah (n:=i*7) Z;refine⟨Z,O,z,A,_,_,_,_,_,_,_,y,λ_=>.mk,λ_=>⟨Z,O,z,A,_,_,_,_,_,_,_,y,λ_=>.mk,λ_=>⟨Z,O,z,A,_,_,_,_,_,_,_,y,Tri.mono (leftC 65 (by omega) x.x a (Y.measuresOk x H).x q o) ?_⟩⟩⟩;rintro _ _ ⟨rfl,r,rfl,L⟩;exact⟨_,rfl,Y.measures.succ z,I G _ _ _ ⟨rfl,L⟩⟩
 refine FO (mk:=.bool) (mc:=.int .i64) b a BG d.invs.length (λi a V1=>V=V1/\-1<=a/\a<=2000) ⟨rfl,q,o⟩ ?_;clear I;rintro i b a V1 J X ⟨rfl,q,o⟩ I;refine F7 (λ_=>?_) (λz hn=>?_);rotate_left
 ·obtain⟨x,H,B,-,G,Z,O,y⟩:=Y.invs.get z;have A:=Ah (n:=i*6) Z;refine⟨Z,O,z,A,_,_,_,_,_,_,y,λ_=>.mk,λ_=>⟨Z,O,z,A,_,_,_,_,_,_,y,λ_=>.mk,λ_=>⟨Z,O,z,A,_,_,_,_,_,_,y,Tri.mono (leftC 65 (by omega) x.x a (Y.invsOk x H) q o) ?_⟩⟩⟩;rintro _ _ ⟨rfl,r,rfl,L⟩;exact⟨_,rfl,Y.invs.succ z,I G _ _ _ ⟨rfl,L⟩⟩
 refine FO (mk:=.bool) (mc:=.int .i64) b a BG d.pots.length (λi a V1=>V=V1/\-1<=a/\a<=2000) ⟨rfl,q,o⟩ ?_;clear I;rintro i b a V1 J X ⟨rfl,q,o⟩ I;refine F7 (λ_=>?_) (λz hn=>?_);rotate_left
 ·obtain⟨x,H,B,-,G,Z,O,y⟩:=Y.pots.get z;have A:=Ah (n:=i*5) Z;refine⟨Z,O,z,A,_,_,_,_,_,y,λ_=>.mk,λ_=>⟨Z,O,z,A,_,_,_,_,_,y,Tri.mono (leftC 65 (by omega) x.x a (Y.potsOk x H) q o) ?_⟩⟩;rintro _ _ ⟨rfl,r,rfl,L⟩;exact⟨_,rfl,Y.pots.succ z,I G _ _ _ ⟨rfl,L⟩⟩
 refine FO (mk:=.bool) (mc:=.int .i64) b a BG d.bounds.length (λi a V1=>V=V1/\-1<=a/\a<=2000) ⟨rfl,q,o⟩ ?_;clear I;rintro i b a V1 J X ⟨rfl,q,o⟩ I;refine F7 (λ_=>.mk) (λz hn=>?_);obtain⟨x,H,B,-,G,Z,O,y⟩:=Y.bounds.get z;have A:=Ah (n:=i*5) Z;refine⟨Z,O,z,A,_,_,_,_,_,y,λ_=>.mk,λ_=>⟨Z,O,z,A,_,_,_,_,_,y,Tri.mono (leftC 65 (by omega) x.x a (Y.boundsOk x H) q o) ?_⟩⟩;rintro _ _ ⟨rfl,r,rfl,L⟩;exact⟨_,rfl,Y.bounds.succ z,I G _ _ _ ⟨rfl,L⟩⟩
theorem greatC(z:Ds.Ok V d):Tri xG 21 #[d.v] V (RY V):=by
 refine Tri.mono (Nt (R:=RY V) ?_) λ_ _ h=>h;refine Tri.mono (overC z (n:=2000) (by omega) (by omega)) ?_;rintro _ _ ⟨rfl,b,rfl⟩;exact⟨_,rfl,.mk⟩
theorem manyC(hm:Mm.Ok V m):Tri xG 22 #[m.v] V (RY V):=by
 refine Tri.mono (Nu (R:=RY V) ?_) λ_ _ h=>h;refine⟨λ_=>.mk,λ_=>⟨λ_=>.mk,λ_=>AK (mk:=.bool) (b0:=false) m.nodes.length (λi V1=>V=V1) rfl ?_⟩⟩;rintro i b V1 J Z rfl o;refine⟨λz=>?_,λ_=>.mk⟩;obtain⟨x,H,Y,-,r,q,G,y⟩:=hm.nodes.get z;exact⟨q,G,z,Ah q,_,_,y,λ_=>.mk,λ_=>⟨hm.nodes.succ z,o r _ _ rfl⟩⟩
end
theorem Ky{α:Type}:∀(l:List α)(i:Nat)(v:α),i<l.length->l.take i++[v]++l.drop (i+1)=l.set i v
 |[],i,v,h=>by simp at h
 |a::l,0,v,_=>by simp
 |a::l,i+1,v,h=>by
  have:=Ky l i v (by simpa using h);simp only[List.take_succ_cons,List.drop_succ_cons,List.set_cons_succ,List.cons_append,<-this]
end Go.Proofs
namespace Go.Proofs
open Go Go.Sx
structure St where
 g:List Int
 ns:List (Int×List Int)
 tk:Nat
 cm:Nat
 lg:List (Int×Int×Int)
inductive Rx (α:Type) where
 |ok (v:α) (s:St)
 |bad (c:Int) (s:St)
def Rx.bind{α β:Type}:Rx α->(α->St->Rx β)->Rx β
 |.ok v s,f=>f v s
 |.bad c s,_=>.bad c s
def Ag:Sl:=⟨none,0,0⟩
def St.mm(s:St):Mm:=⟨Ag,s.g,Ag,s.ns.map λn=>⟨n.1,Ag,n.2⟩⟩
def St.note(s:St)(a:Int×Int×Int):St:={s with lg:=s.lg++[a]}
def FA:E:=.mk 0 0 sE Ag []
def BR(d:Ds)(s:KB):Int:=Ci (λt=>decide (t.name=s)) d.procs
def FB:Rs->St->Rx Int
 |.ok v,s=>.ok v s
 |.bad c,s=>.bad c s
def seqX:List (St->Rx Int)->List Int->St->Rx (List Int)
 |[],acc,st=>.ok acc st
 |f::fs,acc,st=>(f st).bind λv st=>seqX fs (acc++[v]) st
def BN(ks:List (St->Rx Int))(i:Nat):St->Rx Int:=ks.getD i λst=>.bad 0 st
def _root_.Go.Sx.Pr.vars(p:Pr):List Fld:=p.params++p.locals
def cntX(b:Bool)(op:Int)(st:St):St:=if op=16∨op=17∨((op=14∨op=15)/\b=true)then{st with cm:=st.cm+1}else st
abbrev Cf:=Int->List Int->St->Rx Int
abbrev Rt:=List Int×Option Int
abbrev Sf:=Nat->Pr->List S->List Int->St->Rx Rt
def EL(F:Nat)(st:St):Rx Unit:=if F<=st.tk then .bad 20 st else .ok () {st with tk:=st.tk+1}
section
variable(d:Ds)
def varX(p:Pr)(vals:List Int)(s:KB)(st:St):Rx Int:=
 if 0<=BL p.vars s then .ok ((vals[(BL p.vars s).toNat]?).getD 0) st else .ok ((st.g[(BL d.globals s).toNat]?).getD 0) (st.note (1,0,BL d.globals s))
def fldX(a:Int)(s:KB)(st:St):Rx Int:=
 if a=0 then .bad 17 st else match st.ns[(a-1).toNat]? with
  |none=>.bad 0 st
  |some n=>.ok ((n.2[(BL (BV d n.1) s).toNat]?).getD 0) (st.note (1,a,BL (BV d n.1) s))
def newX(s:KB)(st:St):Rx Int:=
 if 4096<=st.ns.length then .bad 21 st else .ok ((st.ns.length:Int)+1) {st with ns:=st.ns++[(Bt d s,yJ (BV d (Bt d s)).length 0)],lg:=st.lg++[(3,(st.ns.length:Int)+1,Bt d s)]}
def intB(sc:Sc):List E->Bool
 |[]=>false
 |a::_=>decide ((Al d sc a).1=Ai)
def C6(C:Cf)(p:Pr)(vals:List Int)(b:Bool)(op n:Int)(s:KB)(ks:List (St->Rx Int))(st:St):Rx Int:=
 if op=1∨op=2 then .ok n st else if op=3 then .ok 0 st else if op=4 then varX d p vals s st
 else if op=5 then(BN ks 0 st).bind λa st=>fldX d a s st
 else if op=6 then newX d s st
 else if op=7 then(seqX ks [] st).bind λl st=>C (BR d s) l st
 else if op=8 then(BN ks 0 st).bind λa st=>FB (BH (-a)) st
 else if op=18 then(BN ks 0 st).bind λa st=>.ok (1-a) st
 else if op=24 then(BN ks 0 st).bind λa st=>.ok (logV a) st
 else if op=19 then(BN ks 0 st).bind λa st=>if a=0 then .ok 0 st else BN ks 1 st
 else if op=20 then(BN ks 0 st).bind λa st=>if a=0 then BN ks 1 st else .ok 1 st
 else if op=21 then(BN ks 0 st).bind λa st=>if a=0 then BN ks 2 st else BN ks 1 st
 else(BN ks 0 st).bind λv st=>(BN ks 1 st).bind λw st=>FB (A4 op v w) (cntX b op st)
mutual
def Du(C:Cf)(p:Pr)(vals:List Int):E->St->Rx Int
 |.mk op n s _ k=>C6 d C p vals (intB d (AI d p) k) op n s (evXs C p vals k)
def evXs(C:Cf)(p:Pr)(vals:List Int):List E->List (St->Rx Int)
 |[]=>[]
 |e::es=>Du C p vals e::evXs C p vals es
end
def Db(Sn:Sf)(c:Nat)(i:Int)(args:List Int)(st:St):Rx Int:=
 if 200<=c then .bad 19 st else match d.procs[i.toNat]? with
  |none=>.bad 0 st
  |some p=>(Sn (c+1) p p.body (args++yJ p.locals.length 0) st).bind λr st=>.ok (r.2.getD 0) st
def setX(p:Pr)(s:KB)(v:Int)(vals:List Int)(st:St):Rx Rt:=
 if 0<=BL p.vars s then .ok (vals.set (BL p.vars s).toNat v,none) st else .ok (vals,none) {st with g:=st.g.set (BL d.globals s).toNat v,lg:=st.lg++[(2,0,BL d.globals s)]}
def putX(a v:Int)(s:KB)(st:St):Rx Unit:=
 if a=0 then .bad 17 st else match st.ns[(a-1).toNat]? with
  |none=>.bad 0 st
  |some n=>.ok () {st with ns:=st.ns.set (a-1).toNat (n.1,n.2.set (BL (BV d n.1) s).toNat v),lg:=st.lg++[(2,a,BL (BV d n.1) s)]}
section
variable(F:Nat)(Sn:Sf)(c:Nat)(p:Pr)
def DU(vals:List Int)(e:E)(st:St):Rx Int:=Du d (Db d Sn c) p vals e st
def FC(cond:E)(body:List S):Nat->List Int->St->Rx Rt
 |0,_,st=>.bad 20 st
 |n+1,vals,st=>(DU d Sn c p vals cond st).bind λa st=>if a=0 then .ok (vals,none) st else(Sn c p body vals st).bind λr st=>match r.2 with
  |some _=>.ok r st
  |none=>(EL F st).bind λ_ st=>FC cond body n r.1 st
def bodyX(n:Nat)(s:S)(vals:List Int)(st:St):Rx Rt:=
 if s.op=1 then(DU d Sn c p vals (s.es.getD 0 FA) st).bind λv st=>setX d p s.s v vals st
 else if s.op=2 then(DU d Sn c p vals (s.es.getD 0 FA) st).bind λa st=>(DU d Sn c p vals (s.es.getD 1 FA) st).bind λv st=>(putX d a v s.s st).bind λ_ st=>.ok (vals,none) st
 else if s.op=3 then(DU d Sn c p vals (s.es.getD 0 FA) st).bind λa st=>if a=0 then Sn c p s.xs vals st else Sn c p s.ls vals st
 else if s.op=4 then FC d F Sn c p (s.es.getD 0 FA) s.ls n vals st
 else if s.op=5 then match s.es with
  |[]=>.ok (vals,some 0) st
  |e::_=>(DU d Sn c p vals e st).bind λv st=>.ok (vals,some v) st
 else if s.op=6 then(DU d Sn c p vals (s.es.getD 0 FA) st).bind λ_ st=>.ok (vals,none) st
 else .ok (vals,none) st
def EN(n:Nat)(s:S)(vals:List Int)(st:St):Rx Rt:=(EL F st).bind λ_ st=>bodyX d F Sn c p n s vals st
end
def EO(f:S->List Int->St->Rx Rt):List S->List Int->St->Rx Rt
 |[],vals,st=>.ok (vals,none) st
 |s::l,vals,st=>(f s vals st).bind λr st=>match r.2 with
  |some _=>.ok r st
  |none=>EO f l r.1 st
def B8(F:Nat):Nat->Sf
 |0=>λ_ _ _ _ st=>.bad 20 st
 |n+1=>λc p l vals st=>EO (EN d F (B8 F n) c p (n+1)) l vals st
def C7(F:Nat)(i:Int)(args:List Int)(st:St):Rx Int:=Db d (B8 d F (F+1)) 0 i args st
end
variable{d:Ds}
theorem evXs_map(C:Cf)(p:Pr)(vals:List Int):∀k:List E,evXs d C p vals k=k.map (Du d C p vals)
 |[]=>by unfold evXs;rfl
 |e::es=>by unfold evXs;rw[evXs_map C p vals es];rfl
theorem evX_eq(C:Cf)(p:Pr)(vals:List Int)(e:E)(st:St):Du d C p vals e st=C6 d C p vals (intB d (AI d p) e.k) e.op e.n e.s (e.k.map (Du d C p vals)) st:=by
 cases e;unfold Du;rw[evXs_map];rfl
theorem kidX_at{f:E->St->Rx Int}{k:List E}{i:Nat}{e:E}(h:k[i]?=some e):BN (k.map f) i=f e:=by
 grind[BN]
section
variable{C:Cf}{p:Pr}{vals:List Int}{b:Bool}{op n:Int}{s:KB}{ks:List (St->Rx Int)}{st:St}
theorem Jc(h:op=1∨op=2):C6 d C p vals b op n s ks st=.ok n st:=by rcases h with rfl|rfl<;>rfl
theorem Mt(h:op=3):C6 d C p vals b op n s ks st=.ok 0 st:=by subst h;rfl
theorem Mu(h:op=4):C6 d C p vals b op n s ks st=varX d p vals s st:=by subst h;rfl
theorem Mv(h:op=5):C6 d C p vals b op n s ks st=(BN ks 0 st).bind λa st=>fldX d a s st:=by subst h;rfl
theorem Mw(h:op=6):C6 d C p vals b op n s ks st=newX d s st:=by subst h;rfl
theorem Jd(h:op=7):C6 d C p vals b op n s ks st=(seqX ks [] st).bind λl st=>C (BR d s) l st:=by subst h;rfl
theorem Mx(h:op=8):C6 d C p vals b op n s ks st=(BN ks 0 st).bind λa st=>FB (BH (-a)) st:=by subst h;rfl
theorem cX18(h:op=18):C6 d C p vals b op n s ks st=(BN ks 0 st).bind λa st=>.ok (1-a) st:=by subst h;rfl
theorem cX24(h:op=24):C6 d C p vals b op n s ks st=(BN ks 0 st).bind λa st=>.ok (logV a) st:=by subst h;rfl
theorem cX19(h:op=19):C6 d C p vals b op n s ks st=(BN ks 0 st).bind λa st=>if a=0 then .ok 0 st else BN ks 1 st:=by subst h;rfl
theorem cX20(h:op=20):C6 d C p vals b op n s ks st=(BN ks 0 st).bind λa st=>if a=0 then BN ks 1 st else .ok 1 st:=by subst h;rfl
theorem cX21(h:op=21):C6 d C p vals b op n s ks st=(BN ks 0 st).bind λa st=>if a=0 then BN ks 2 st else BN ks 1 st:=by subst h;rfl
theorem cXTwo(h:9<=op/\op<=23/\op≠18/\op≠19/\op≠20/\op≠21):C6 d C p vals b op n s ks st=(BN ks 0 st).bind λv st=>(BN ks 1 st).bind λw st=>FB (A4 op v w) (cntX b op st):=by
 grind[C6]
end
end Go.Proofs
namespace Go.Proofs
open Go Go.Sx
section
variable{d:Ds}{sc:Sc}{e:E}{p:Pr}
structure CallK (d:Ds)(sc:Sc)(e:E)(pr:Pr)(i:Nat):Prop where
 idx:BR d e.s=i
 at_:d.procs[i]?=some pr
 len:e.k.length=pr.params.length
 fit:∀(j:Nat) a f,e.k[j]?=some a->pr.params[j]?=some f->∃u,Al d sc a=(u,0)/\Bi d u f.ty=true
theorem fitAll_at:∀{l:List KB}{fs:List Fld},D3 d l fs=true->∀(j:Nat) a f,l[j]?=some a->fs[j]?=some f->Bi d a f.ty=true
 |[],_,_,j,a,f,h,_=>by simp at h
 |_::_,[],_,j,a,f,_,h=>by simp at h
 |b::l,g::fs,h,j,a,f,h1,z=>by
  unfold D3 at h;rw[zC]at h;cases j with
  |zero=>simp_all
  |succ j=>exact fitAll_at h.2 j a f (by simpa using h1) (by simpa using z)
theorem callT_ok{s t:KB}{l:List KB}(h:D4 d s l=(t,0)):∃(pr:Pr)(i:Nat),BR d s=i/\d.procs[i]?=some pr/\l.length=pr.params.length/\D3 d l pr.params=true/\t=pr.result:=by
 unfold D4 BU at h;unfold BR;rcases Cw (λx:Pr=>decide (x.name=s)) d.procs with⟨-,z,-⟩|⟨i,pr,q1,z,q3,-⟩;·simp_all
 grind
theorem callK_of(hk:∀x∈e.k,(Al d sc x).2=0){t:KB}(h:D4 d e.s (e.k.map λx=>(Al d sc x).1)=(t,0)):∃pr i,CallK d sc e pr i/\t=pr.result:=by
 obtain⟨pr,i,h1,z,y,r,q⟩:=callT_ok h;refine⟨pr,i,⟨h1,z,by simpa using y,λj a f ha hf=>⟨(Al d sc a).1,Bp rfl (hk a (List.mem_of_getElem? ha)),fitAll_at r j _ f (by simp[ha]) hf⟩⟩,q⟩
inductive Dj (d:Ds)(sc:Sc)(e:E):KB->Prop where
 |int (h:e.op=1) (hn:0<=e.n/\e.n<=1099511627776):Dj d sc e Ai
 |bool (h:e.op=2) (hn:e.n=0∨e.n=1):Dj d sc e Ar
 |nil (h:e.op=3) (hn:e.n=0):Dj d sc e C1
 |var {t} (h:e.op=4) (hl:Bn sc.vars e.s=t) (hne:t≠sE):Dj d sc e t
 |fld {t u} {a:E} (h:e.op=5) (hk:e.k=[a]) (ha:Al d sc a=(u,0)) (ht:C2 d u e.s=(t,0)):Dj d sc e t
 |new (h:e.op=6) (hn:BE d e.s=true):Dj d sc e e.s
 |call {pr:Pr} {i:Nat} (h:e.op=7) (hc:CallK d sc e pr i) (hr:pr.result≠sE):Dj d sc e pr.result
 |neg {a:E} (h:e.op=8) (hk:e.k=[a]) (ha:Al d sc a=(Ai,0)):Dj d sc e Ai
 |not {a:E} (h:e.op=18) (hk:e.k=[a]) (ha:Al d sc a=(Ar,0)):Dj d sc e Ar
 |log {a:E} (h:e.op=24) (hk:e.k=[a]) (ha:Al d sc a=(Ai,0)):Dj d sc e Ai
 |and {a b:E} (h:e.op=19) (hk:e.k=[a,b]) (ha:Al d sc a=(Ar,0)) (hb:Al d sc b=(Ar,0)):Dj d sc e Ar
 |or {a b:E} (h:e.op=20) (hk:e.k=[a,b]) (ha:Al d sc a=(Ar,0)) (hb:Al d sc b=(Ar,0)):Dj d sc e Ar
 |cond {a b c:E} {t u w} (h:e.op=21) (hk:e.k=[a,b,c]) (ha:Al d sc a=(Ar,0)) (hb:Al d sc b=(u,0)) (hc:Al d sc c=(w,0)) (hu:u=t∨Bi d u t=true) (hw:w=t∨Bi d w t=true) (ht:t=if u=C1 then w else u):Dj d sc e t
 |eq {a b:E} {u w} (h:e.op=14∨e.op=15) (hk:e.k=[a,b]) (ha:Al d sc a=(u,0)) (hb:Al d sc b=(w,0)) (hf:Bi d u w=true∨Bi d w u=true):Dj d sc e Ar
 |cmp {a b:E} (h:e.op=16∨e.op=17) (hk:e.k=[a,b]) (ha:Al d sc a=(Ai,0)) (hb:Al d sc b=(Ai,0)):Dj d sc e Ar
 |ari {a b:E} (h:e.op=9∨e.op=10∨e.op=11∨e.op=12∨e.op=13∨e.op=22∨e.op=23) (hk:e.k=[a,b]) (ha:Al d sc a=(Ai,0)) (hb:Al d sc b=(Ai,0)):Dj d sc e Ai
theorem kindX(A:sc.body=true){t:KB}(hv:VE e)(ht:Al d sc e=(t,0)):Dj d sc e t:=by
 obtain⟨hk,hn⟩:=LX ht;obtain⟨a1,a2,a3,r⟩:=arityB hv.node;unfold Ej at hn;unfold numB at r;have one:Bs e.op=1->∃a,e.k=[a]:=λh=>list1 ((a2 (by omega)).trans h);have q:Bs e.op=2->∃a b,e.k=[a,b]:=λh=>list2 ((a2 (by omega)).trans h);have Z:Bs e.op=3->∃a b c,e.k=[a,b,c]:=λh=>list3 ((a2 (by omega)).trans h);by_cases h1:e.op=1
 ·rw[if_pos h1]at hn r;cases hn;exact .int h1 (of_decide_eq_true r)
 rw[if_neg h1]at hn r;by_cases L:e.op=2
 ·rw[if_pos L]at hn r;cases hn;exact .bool L (of_decide_eq_true r)
 rw[if_neg L]at hn r;have r:e.n=0:=of_decide_eq_true r;by_cases R:e.op=3
 ·rw[if_pos R]at hn;cases hn;exact .nil R r
 rw[if_neg R]at hn;by_cases X:e.op=4
 ·rw[if_pos X]at hn;split at hn;·simp at hn
  ·rename_i hne;simp only[zS,and_true]at hn;exact .var X hn (hn▸hne)
 rw[if_neg X]at hn;by_cases I:e.op=5
 ·obtain⟨a,ha⟩:=one (by rw[I];rfl);rw[if_pos I,ha]at hn;rw[ha]at hk;exact .fld I ha (Bp rfl (hk a (by simp))) hn
 rw[if_neg I]at hn;by_cases h6:e.op=6
 ·rw[if_pos h6,if_neg (by rw[A];decide)]at hn;split at hn;·simp at hn
  ·rename_i B;simp only[zS,and_true]at hn;subst hn;exact .new h6 (by simpa using B)
 rw[if_neg h6]at hn;by_cases h7:e.op=7
 ·rw[if_pos h7]at hn;unfold ED at hn;rw[if_pos A]at hn;split at hn;·simp at hn
  ·rename_i hne;obtain⟨pr,i,hc,rfl⟩:=callK_of hk hn;exact .call h7 hc λh=>hne ⟨by rw[hn],by rw[hn];exact h⟩
 rw[if_neg h7]at hn;by_cases o:e.op=14∨e.op=15
 ·obtain⟨a,b,z⟩:=q (by rcases o with h|h<;>(rw[h];rfl));rw[if_pos o,z]at hn;rw[z]at hk;obtain⟨g,rfl⟩:=D8 hn;exact .eq o z (Bp rfl (hk a (by simp))) (Bp rfl (hk b (by simp))) (by simpa using g)
 rw[if_neg o]at hn;by_cases H:e.op=16∨e.op=17
 ·obtain⟨a,b,z⟩:=q (by rcases H with h|h<;>(rw[h];rfl));rw[if_pos H,z]at hn;rw[z]at hk;obtain⟨g,rfl⟩:=D8 hn;obtain⟨O,J⟩:=allT2 g;exact .cmp H z (Bp O (hk a (by simp))) (Bp J (hk b (by simp)))
 rw[if_neg H]at hn;by_cases Y:e.op=18∨e.op=19∨e.op=20
 ·rw[if_pos Y]at hn;rcases Y with h|h
  ·obtain⟨a,ha⟩:=one (by rw[h];rfl);rw[ha]at hn hk;obtain⟨g,rfl⟩:=D8 hn;exact .not h ha (Bp (allT1 g) (hk a (by simp)))
  ·obtain⟨a,b,z⟩:=q (by rcases h with h|h<;>(rw[h];rfl));rw[z]at hn hk;obtain⟨g,rfl⟩:=D8 hn;obtain⟨O,J⟩:=allT2 g;rcases h with h|h;·exact .and h z (Bp O (hk a (by simp))) (Bp J (hk b (by simp)))
   ·exact .or h z (Bp O (hk a (by simp))) (Bp J (hk b (by simp)))
 rw[if_neg Y]at hn;by_cases G:e.op=21
 ·obtain⟨a,b,c,y⟩:=Z (by rw[G];rfl);rw[if_pos G,y]at hn;rw[y]at hk;obtain⟨g,J⟩:=D8 hn;simp only[zG,vP,vQ,vR,zC,decide_eq_true_eq,Bool.or_eq_true]at g J;refine .cond G y (Bp g.1 (hk a (by simp))) (Bp rfl (hk b (by simp))) (Bp rfl (hk c (by simp))) ?_ ?_ J.symm;·grind[inr,Bi]
  grind[Bi,absurd,inr]
 rw[if_neg G]at hn;obtain⟨g,rfl⟩:=D8 hn;have D:e.op=8∨e.op=24∨(e.op=9∨e.op=10∨e.op=11∨e.op=12∨e.op=13∨e.op=22∨e.op=23):=by
  grind[Bs]
 rcases D with h|h|h
 ·obtain⟨a,ha⟩:=one (by rw[h];rfl);rw[ha]at g hk;exact .neg h ha (Bp (allT1 g) (hk a (by simp)))
 ·obtain⟨a,ha⟩:=one (by rw[h];rfl);rw[ha]at g hk;exact .log h ha (Bp (allT1 g) (hk a (by simp)))
 ·obtain⟨a,b,z⟩:=q (by rcases h with h|h|h|h|h|h|h<;>(rw[h];rfl));rw[z]at g hk;obtain⟨O,J⟩:=allT2 g;exact .ari h z (Bp O (hk a (by simp))) (Bp J (hk b (by simp)))
def D9(d:Ds)(p:Pr)(s:S):Prop:=(∃n,(DN d (AI d p) p.result n s).2=0)/\∃k,D1 k s=true
theorem Je{res:KB}:∀{l:List S}{n:Int},(AJ d sc res n l).2=0->∀s∈l,∃y,(DN d sc res y s).2=0
 |[],_,_,s,z=>by cases z
 |x::l,n,h,s,z=>by
  rw[IN]at h;split at h;·omega
  ·rename_i r;rcases yD.1 z with rfl|z;·grind
   ·exact Je h s z
theorem Jf{k:Int}:∀{l:List S},Cv k l=true->∀s∈l,D1 k s=true
 |[],_,s,z=>by cases z
 |x::l,h,s,z=>by
  unfold Cv at h;rw[zC]at h;rcases yD.1 z with rfl|z;·exact h.1
  ·exact Jf h.2 s z
theorem okS_eq(k:Int)(s:S):D1 k s=(decide (k<=60)&&CS s.op s.s s.es s.ls.length s.xs.length&&Cv (k+1) s.ls&&Cv (k+1) s.xs):=by cases s;unfold D1;rfl
theorem D9.parts{s:S}(h:D9 d p s):DM d (AI d p) p.result s.op s.s s.es=0/\FQ s.op s.s s.es s.ls.length s.xs.length=true/\(∀e∈s.es,Bf e=true)/\(∀x∈s.ls,D9 d p x)/\∀x∈s.xs,D9 d p x:=by
 obtain⟨⟨n,h1⟩,k,r⟩:=h;rw[okS_eq]at r;simp only[zC]at r;obtain⟨⟨⟨-,y⟩,q⟩,o⟩:=r;unfold CS at y;rw[zC,z6]at y;rw[stT_eq]at h1;split at h1;·omega
 ·rename_i H;split at h1;·omega
  ·rename_i h6;exact⟨by simpa using H,y.1,y.2,λx z=>⟨Je (by simpa using h6) x z,_,Jf q x z⟩,λx z=>⟨Je h1 x z,_,Jf o x z⟩⟩
inductive KindS (d:Ds)(p:Pr)(s:S):Prop where
 |set {e:E} {u t:KB} (h:s.op=1) (he:s.es=[e]) (hv:Bf e=true) (ht:Al d (AI d p) e=(u,0)) (hl:Bn (AI d p).vars s.s=t) (hne:t≠sE) (hf:Bi d u t=true)
 |put {a e:E} {u w t:KB} (h:s.op=2) (he:s.es=[a,e]) (hv:Bf a=true) (hw:Bf e=true) (ha:Al d (AI d p) a=(u,0)) (ht:Al d (AI d p) e=(w,0)) (hl:C2 d u s.s=(t,0)) (hf:Bi d w t=true)
 |cond {e:E} (h:s.op=3) (he:s.es=[e]) (hv:Bf e=true) (ht:Al d (AI d p) e=(Ar,0))
 |loop {e:E} (h:s.op=4) (he:s.es=[e]) (hv:Bf e=true) (ht:Al d (AI d p) e=(Ar,0))
 |ret0 (h:s.op=5) (he:s.es=[]) (hr:p.result=sE)
 |ret1 {e:E} {u:KB} (h:s.op=5) (he:s.es=[e]) (hv:Bf e=true) (ht:Al d (AI d p) e=(u,0)) (hr:p.result≠sE) (hf:Bi d u p.result=true)
 |call {e:E} {pr:Pr} {i:Nat} (h:s.op=6) (he:s.es=[e]) (hv:Bf e=true) (ho:e.op=7) (hc:CallK d (AI d p) e pr i)
theorem kindS{s:S}(h:D9 d p s):KindS d p s:=by
 obtain⟨h1,z,y,-⟩:=h.parts;unfold DM at h1;unfold FQ at z;by_cases J:s.op=6
 ·rw[if_pos J]at h1;rw[if_neg (by omega),if_neg (by omega),if_neg (by omega),if_neg (by omega),if_neg (by omega),if_pos J]at z;obtain⟨-,q,R,-⟩:=of_decide_eq_true z;obtain⟨e,he⟩:=list1 q;rw[he]at h1 R;simp only at h1;split at h1;·omega
  ·rename_i A;obtain⟨o,I⟩:=I0 d (AI d p) e.k [] (by simpa using A);rw[I,vT]at h1;obtain⟨pr,i,hc,-⟩:=callK_of (t:=(D4 d e.s (e.k.map λx=>(Al d (AI d p) x).1)).1) o (Prod.ext rfl h1);exact .call J he (y e (by rw[he];simp)) R hc
 rw[if_neg J]at h1;split at h1;·omega
 rename_i A;obtain⟨o,I⟩:=I0 d (AI d p) s.es [] (by simpa using A);rw[I,vT]at h1;have ty:∀{e:E},e∈s.es->Al d (AI d p) e=((Al d (AI d p) e).1,0):=λhe=>Bp rfl (o _ he);by_cases G:s.op=1
 ·rw[if_pos G]at h1;rw[if_pos G,zC]at z;obtain⟨e,he⟩:=list1 (of_decide_eq_true z.2).1;have hm:e∈s.es:=by rw[he];simp
  split at h1;·cases h1
  rename_i hne;split at h1
  ·rename_i hf;rw[he]at hf;exact .set G he (y e hm) (ty hm) rfl hne hf
  ·cases h1
 rw[if_neg G]at h1 z;by_cases Z:s.op=2
 ·rw[if_pos Z]at h1;rw[if_pos Z,zC]at z;obtain⟨a,e,he⟩:=list2 (of_decide_eq_true z.2).1;have hm:a∈s.es:=by rw[he];simp
  have H:e∈s.es:=by rw[he];simp
  split at h1;·omega
  rename_i q;split at h1
  ·rename_i hf;rw[he]at hf q;simp only[zG,vQ,vR]at hf q;exact .put Z he (y a hm) (y e H) (ty hm) (ty H) (Prod.ext rfl (by simpa using q)) hf
  ·cases h1
 rw[if_neg Z]at h1 z;by_cases Y:s.op=3
 ·rw[if_pos (.inl Y)]at h1;rw[if_pos Y]at z;obtain⟨e,he⟩:=list1 (of_decide_eq_true z).2;have hm:e∈s.es:=by rw[he];simp
  split at h1
  ·rename_i hf;rw[he]at hf;exact .cond Y he (y e hm) (Bp hf (o e hm))
  ·cases h1
 rw[if_neg Y]at z;by_cases O:s.op=4
 ·rw[if_pos (.inr O)]at h1;rw[if_pos O]at z;obtain⟨e,he⟩:=list1 (of_decide_eq_true z).2.1;have hm:e∈s.es:=by rw[he];simp
  split at h1
  ·rename_i hf;rw[he]at hf;exact .loop O he (y e hm) (Bp hf (o e hm))
  ·cases h1
 rw[if_neg (by omega)]at h1;rw[if_neg O]at z;by_cases L:s.op=5
 ·rw[if_pos L]at h1 z;obtain⟨-,hl,-⟩:=of_decide_eq_true z;cases he:s.es with
  |nil=>
   rw[he]at h1;simp only[vP,vU,if_true]at h1;split at h1;·rename_i hr;exact .ret0 L he hr
   ·cases h1
  |cons e r=>
   have hr:r=[]:=by
    grind
   subst hr;have hm:e∈s.es:=by rw[he];simp
   rw[he]at h1;simp only[zG,vP,zy,vU,vQ]at h1;rw[if_neg (by omega)]at h1;split at h1;·rename_i hf;exact .ret1 L he (y e hm) (ty hm) hf.1 hf.2
   ·cases h1
 simp_all
structure DG (d:Ds)(p:Pr):Prop where
 body:∀s∈p.body,D9 d p s
 vars:∀f∈p.vars,known d f.ty=true
 res:p.result=sE∨known d p.result=true
 lens:p.params.length<=6/\p.locals.length<=12
theorem oneT_known{l:List Fld}{i:Nat}{f:Fld}(h:BF d l i f=0):known d f.ty=true:=by
 grind[BF]
theorem declT_known{l:List Fld}(h:Cp d l=0):∀f∈l,known d f.ty=true:=by
 intro f hf;obtain⟨i,r⟩:=vV.1 hf;unfold Cp at h;cases y:Ak (λi f=>if BF d l i f≠0 then some (BF d l i f)else none) 0 l with
 |none=>
  grind[FY,oneT_known]
 |some b=>
  exfalso;rw[y]at h;simp only[xu]at h;subst h;have key:∀(z:List Fld)(i:Nat),Ak (λi f=>if BF d l i f≠0 then some (BF d l i f)else none) i z≠some 0:=by
   intro z;induction z with
   |nil=>intro i h;cases h
   |cons x z q=>
    grind[Ak,BF]
  exact key l 0 y
theorem Kz(hv:A7 d=true)(hc:BJ d=none):∀p∈d.procs,DG d p:=by
 intro p o;obtain⟨i,H⟩:=vV.1 o;unfold BJ at hc;obtain⟨-,h⟩:=Eo hc;obtain⟨J,h⟩:=Eo h;obtain⟨-,h⟩:=Eo h;obtain⟨hb,-⟩:=Eo h;unfold Ft at J;unfold D5 at hb;have a1:=FY J i p H;have a2:=FY hb i p H;unfold A7 at hv;simp only[zC,z6]at hv;have z:=hv.1.2 p o;unfold DC at z;simp only[zC]at z;obtain⟨⟨⟨⟨-,y⟩,f2⟩,-⟩,G⟩:=z;unfold CT at y f2;rw[zC,decide_eq_true_eq]at y f2;have Z:=y.1;have Y:=f2.1;refine⟨λs r=>⟨?_,1,Jf (of_decide_eq_true G).1 s r⟩,?_,?_,by omega,by omega⟩;·grind[Je]
 ·split at a1;·cases a1
  split at a1;·cases a1
  rename_i q;have q:Cp d (p.params++p.locals)=0:=by simpa using q
  exact declT_known q
 grind
end
end Go.Proofs
