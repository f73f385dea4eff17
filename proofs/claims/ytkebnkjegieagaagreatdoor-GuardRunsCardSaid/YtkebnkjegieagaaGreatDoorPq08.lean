/- Part 8: no statement of the seat is proved here. -/
import Derived.Test.YtkebnkjegieagaaGreatDoorPq07
import Derived.Laws.MakeOwn
set_option linter.unusedVariables false
set_option linter.unusedSimpArgs false
open Go.Proofs.Tryz renaming prog->xV
open List renaming take_add_one->vq,map_append->yY,length_map->vp,flatMap_cons->xG,length_append->zK,length_cons->zg,mem_cons_self->yI,mem_cons_of_mem->yJ,length_take->vo,append_nil->vn,append_assoc->zM,take_of_length_le->wm,eq_nil_of_length_eq_zero->xI,range->zC,mem_filter->yl,mem_range->yo,mem_map->vk,filter_cons->yM,mem_cons->zJ,all_eq_true->yK,any_eq_true->xg,getElem?_eq_some_iff->yg,not_mem_nil->xT,modify_succ_cons->vf,set_append_right->ve,mem_append->vc,any_eq_false->xf,mem_append_left->vu,length_range->vb,mem_of_getElem?->xw,getElem?_eq_getElem->yf,length_singleton->zL,mem_singleton->zZ,length_modify->uC,mem_append_right->uE,replicate->zB,map_cons->zI,map_nil->yZ,getD_cons_zero->uF,getD_cons_succ->uG,nil_append->zO,length_nil->uH,mem_iff_getElem?->uJ,getElem?_map->xJ,length_set->uK,getElem?_append_left->uN,map_set->uO,mem_or_eq_of_mem_set->uQ,ext_getElem?->zf,getElem?_set->uR
open Nat renaming add_mul->xH,mul_le_mul_right->xK,le_refl->yu,add_sub_cancel_left->vd,mul_le_mul->vA,le_trans->yr
open Bool renaming and_eq_true->zD,and_false->vT,not_eq_true->vU,false_and->xj,not_eq_true'->zo,or_eq_true->yz
open Go.Oper renaming uponIn->vY
open Go.CallsIn renaming mono->vm
open Go.RoundIn renaming mono->vl
open Go.Region renaming binds->yy,ready->ym
open Option renaming map_some->zR,getD_some->xb
open Array renaming mem_toList_iff->vj,all_eq_true'->wN,getD->yL,getD_eq_getD_getElem?->wx,getElem?_setIfInBounds_ne->wv,getElem?_eq_some_iff->yN,length_toList->uT
open Int renaming tdiv_eq_ediv_of_nonneg->vh,le_refl->vg,toNat_natCast->wH
open Go.IntKind renaming wrap->xW,min->we,signed->zt,bits->zr,max->wc,i64->ye,wrap_i64->uU
open Prod.mk renaming injEq->zq
open Go.Value renaming int->vP
open Go.Result renaming andThen_ok->zW
open Go.Builtin renaming zeroCells->xQ,append_->xM,firstCells->xS,nextslicecap->uV
namespace Go.Proofs
open Go Go.Sx
attribute [local irreducible] Go.Sx.Tri
theorem Own.keep{W V V':Mem}{e:TypeId}{sz:Nat}{s:Sl}{vs:XV}{kb bb:Nat}(h:Sx.Own W V e sz s vs)(hk:CU kb bb V V')(o:W.sub V')(h1:∀c,V kb≠some (.cells c e (0,0)))(h2:∀c,V bb≠some (.cells c e (0,0))):Sx.Own W V' e sz s vs:=⟨o,h.len,by
 rcases h.at_ with H|⟨g,cur,a,b,c,d⟩;.exact .inl H
 .exact .inr ⟨g,cur,a,b,hk _ _ (λe=>h1 cur (by rw[<-e];exact c)) (λe=>h2 cur (by rw[<-e];exact c)) c,d⟩⟩
section
variable{W V:Mem}{d:Ds}{m:Mm}{p kb bb:Nat}{kn:Int×Int->Option Int}{bz:Int×Int->Bool}
theorem BI.kMap(M:BI W d m p kb bb V kn bz){e:TypeId}:∀c,V kb≠some (.cells c e (0,0)):=λc hc=>by
 obtain⟨H,J,o,-⟩:=M.known.at_;rw[o]at hc;cases hc
theorem BI.bMap(M:BI W d m p kb bb V kn bz){e:TypeId}:∀c,V bb≠some (.cells c e (0,0)):=λc hc=>by
 obtain⟨H,J,o,-⟩:=M.busy.at_;rw[o]at hc;cases hc
structure Dh (W:Mem)(d:Ds)(m:Mm)(p kb bb:Nat)(V:Mem)(s:Sl)(xs:List (KB×Int)):Prop where
 own:Sx.Own W V 48 2 s (xs.flatMap H8)
 mach:∃kn,BI W d m p kb bb V kn I0/\KnOk d m kn
theorem Dh.hold(S:Dp W d m p kb bb){s:Sl}{xs:List (KB×Int)}(h:Dh W d m p kb bb V s xs){v:Iv}{x:Int}(hv:v∈d.invs)(J:This d m v.ty x):
  Tri xV 146 #[pv p,v.v,uI x] V λe V'=>e=EQ (D3 d m v.x x)/\Dh W d m p kb bb V' s xs:=by
 obtain⟨kn,M,K⟩:=h.mach;refine Tri.mono (c146 S M K hv J) ?_;rintro _ V' ⟨rfl,hk,o,H,Z⟩;exact⟨rfl,Own.keep h.own hk H.sub M.kMap M.bMap,o,H,Z⟩
theorem Dh.add{s:Sl}{xs:List (KB×Int)}(h:Dh W d m p kb bb V s xs){y:KB×Int}{t:Nat}{ty:Nat}{a b:Operand}{vals:Operand->Value}{q:Value->Mem->Prop}{H:Nat}(J:V H=none)
  (ha:vals a=uL s) (hb:vals b=.slice (sa H) 1 1) (o:xs.length+1<=2147483648) (I:∀s' V',Dh W d m p kb bb V' s' (xs++[y])->q (.slice s'.p s'.n s'.c) V'):
  GenK xV (.call {callee:=.builtin .append,args:=#[a,b],argTypes:=#[191,191]}) ty vals (V.set H (.cells (H8 y).toArray t (0,0))) q:=by
 obtain⟨kn,M,K⟩:=h.mach;refine app191 (s:=s) (u:=⟨some ⟨H,0,none⟩,1,1⟩) (xs:=xs) (ys:=[y]) ha hb ((h.own.but).new J _) (Ae.cells (xs:=[y]) (row:=H8) Av (by simp) (λ_=>rfl) rfl (by simp)) (by simpa using o) λs' V' ho=>I s' V' ⟨ho.narrow h.own.sub_but,kn,⟨(h.own.sub_but).trans ho.sub,?_,?_,?_⟩,K⟩;.exact ho.sub _ _ (Mem.but_at M.at_ (h.own.apart λL hc=>by rw[M.at_]at hc;cases hc))
 .obtain⟨Z,Y,O,A⟩:=M.known.at_;exact⟨Z,Y,ho.sub _ _ (Mem.but_at O (h.own.apart M.kMap)),A⟩
 .obtain⟨Z,Y,O,A⟩:=M.busy.at_;exact⟨Z,Y,ho.sub _ _ (Mem.but_at O (h.own.apart M.bMap)),A⟩
theorem Mem.set_sub{A B:Mem}(h:A.sub B)(b:Nat)(o:Obj):(A.set b o).sub (B.set b o):=λc x hc=>by
 by_cases e:c=b;.subst e;rw[Mem.set_same]at hc⊢;exact hc
 .rw[Mem.set_ne e]at hc⊢;exact h _ _ hc
theorem Dh.wide{s:Sl}{xs:List (KB×Int)}(h:Dh W d m p kb bb V s xs){b:Nat}(hb:V b=none)(o:Obj):Dh (W.set b o) d m p kb bb (V.set b o) s xs:=by
 obtain⟨kn,M,K⟩:=h.mach;have H:=Mem.set_sub h.own.sub b o;refine⟨⟨H,h.own.len,?_⟩,kn,⟨H,(M.grow (Mem.sub_new hb o)).at_,(M.grow (Mem.sub_new hb o)).known,(M.grow (Mem.sub_new hb o)).busy⟩,K⟩;rcases h.own.at_ with J|⟨g,cur,a,b',c,dd⟩;.exact .inl J
 .have hne:g≠b:=λe=>by rw[e,hb]at c;cases c
  exact .inr ⟨g,cur,a,by rw[Mem.set_ne hne];exact b',by rw[Mem.set_ne hne];exact c,dd⟩
theorem Dh.narrow{o:Mem}{s:Sl}{xs:List (KB×Int)}(h:Dh o d m p kb bb V s xs)(H:W.sub o):Dh W d m p kb bb V s xs:=by
 obtain⟨kn,M,K⟩:=h.mach;exact⟨h.own.narrow H,kn,⟨H.trans M.sub,M.at_,M.known,M.busy⟩,K⟩
theorem Dh.wideS(S:Dp W d m p kb bb){s:Sl}{xs:List (KB×Int)}(h:Dh W d m p kb bb V s xs){b:Nat}(hb:V b=none)(o:Obj):Dp (W.set b o) d m p kb bb:=by
 obtain⟨kn,M,K⟩:=h.mach;have J:W b=none:=by
  cases hc:W b with
  |none=>rfl
  |some x=>rw[M.sub _ _ hc]at hb;cases hb
 have H:=Mem.sub_new J o;obtain⟨O,A,Z,-⟩:=M.known.at_;obtain⟨I,c2,Y,-⟩:=M.busy.at_;refine⟨S.good,S.ds.sub H,S.mm.sub H,?_,?_,?_,S.pk,S.pb,S.kb⟩;.rw[Mem.set_ne λe=>by rw[<-e,M.at_]at hb;cases hb];exact S.p0
 .rw[Mem.set_ne λe=>by rw[<-e,Z]at hb;cases hb];exact S.k0
 .rw[Mem.set_ne λe=>by rw[<-e,Y]at hb;cases hb];exact S.b0
theorem LS{v:Iv}{l:XZ}{j:Nat}{n:Int}(hn:l[j]?=some n):BQ d m v (l.take (j+1))=BQ d m v (l.take j)++if B8 d m v n=true then[(v.name,n)]else[]:=by
 unfold BQ;rw[vq,hn,List.filter_append,yY];by_cases h:B8 d m v n=true<;>simp[h]
theorem allOf_len{v:Iv}{l:XZ}:(BQ d m v l).length<=l.length:=by
 unfold BQ;rw[vp];exact List.length_filter_le _ _
theorem flat_len{l:List Iv}(h:∀v∈l,(A9 d m v).length<=4097):(l.flatMap λv=>BQ d m v (A9 d m v)).length<=l.length*4097:=by
 induction l with
 |nil=>simp
 |cons v l o=>
  rw[xG,zK,zg,xH];have h1:=allOf_len (d:=d) (m:=m) (v:=v) (l:=A9 d m v);have h2:=h v yI;have J:=o λx H=>h x (yJ _ H);omega
theorem validD_lens(h:A8 d=true):d.invs.length<=12:=by
 unfold A8 at h;simp only[zD]at h;obtain⟨⟨⟨⟨_,o⟩,-⟩,-⟩,-⟩:=h;unfold F5 at o;have:=of_decide_eq_true o;omega
theorem nodes_ty(G:An d m){x:Int}(h:0<=x/\x<=(m.nodes.length:Int)){v:Iv}(o:Dg d m x=v.ty):This d m v.ty x:=o▸this_typ G h.1 h.2
theorem allRound(S:Dp W d m p kb bb){s:Sl}{A:List (KB×Int)}{v:Iv}{ns:XZ}{j:Nat}{n:Int}(hv:v∈d.invs)(h:Dh W d m p kb bb V s (A++BQ d m v (ns.take j)))(hn:ns[j]?=some n)(hr:0<=n/\n<=(m.nodes.length:Int))(hl:A.length+ns.length<=2147483000)(I:IR ((j:Int)+1))
  {J:KZ} (L:∀s' V',Dh W d m p kb bb V' s' (A++BQ d m v (ns.take (j+1)))->J [uL s',uI ((j:Int)+1)] V'):
  TT 145 #[uP (sa p),uI n] V λe V6=>∃H,e=rV (uS H)/\
   Br (H=v.ty)
   (TT 146 #[uP (sa p),uA #[uS v.name,uS v.ty,uI v.x.op,uI v.x.n,uS v.x.s,uL v.x.l],uI n] V6 λe O=>∃Z,e=rV (uB Z)/\
    Br (Z=true)
    (IR ((j:Int)+1)/\J [uL s,uI ((j:Int)+1)] O)
    (Af [uS v.name,uI n] 48 O λR K=>
     GenK xV (.call {callee:=(.builtin .append),args:=#[(.tmp 64),(.tmp 69)],argTypes:=#[191,191]}) 191 (gv [(64,uL s),(69,.slice (Aa R 0) (1:Int).toNat (1:Int).toNat)]) K λx T=>∃Y,x=uL Y/\
      IR ((j:Int)+1)/\J [uL Y,uI ((j:Int)+1)] T))
   (IR ((j:Int)+1)/\J [uL s,uI ((j:Int)+1)] V6):=by
 obtain⟨kn,M,-⟩:=h.mach;have D:=allOf_len (d:=d) (m:=m) (v:=v) (l:=ns.take j);have U:(ns.take j).length<=ns.length:=by rw[vo];omega
 refine(c145 S M hr).call ⟨_,rfl,λo=>?_,λo=>⟨I,L s V ?_⟩⟩
 .have o:Dg d m n=v.ty:=o;refine Tri.mono (h.hold S hv (nodes_ty S.good hr o)) ?_;rintro _ O ⟨rfl,h7⟩;refine⟨_,rfl,λX=>⟨I,L s O ?_⟩,λX tb B=>h7.add (y:=(v.name,n)) B rfl rfl (by rw[zK];omega) λs' V' h'=>⟨s',rfl,I,L s' V' ?_⟩⟩
  .rw[LS hn];have hb:B8 d m v n=false:=by unfold B8;rw[show D3 d m v.x n=true from X,Bool.not_true,vT]
   rw[hb,if_neg (by decide),vn];exact h7
  .rw[LS hn];have hb:B8 d m v n=true:=by unfold B8;rw[decide_eq_true o,(vU _).mp X];rfl
   rw[hb,if_pos rfl,<-zM];exact h'
 .have o:¬Dg d m n=v.ty:=o;rw[LS hn];have hb:B8 d m v n=false:=by unfold B8;rw[decide_eq_false o,xj]
  rw[hb,if_neg (by decide),vn];exact h
end
section
variable{V:Mem}{d:Ds}{m:Mm}
def Mem.no3(V:Mem)(a b c:Nat):Mem:=λx=>if x=a∨x=b∨x=c then none else V x
theorem no3_sub(V:Mem)(a b c:Nat):(Mem.no3 V a b c).sub V:=λx o h=>by
 unfold Mem.no3 at h;split at h;.cases h
 .exact h
theorem no3_at{a b c x:Nat}{o:Obj}(h:V x=some o)(h1:x≠a)(h2:x≠b)(H:x≠c):Mem.no3 V a b c x=some o:=by
 unfold Mem.no3;rw[if_neg (by simp[h1,h2,H])];exact h
theorem LU{a b c x:Nat}(h:x=a∨x=b∨x=c):Mem.no3 V a b c x=none:=by
 unfold Mem.no3;rw[if_pos h]
theorem c109[Tab V](hd:Ds.Ok V d)(hm:Mm.Ok V m):Tri xV 109 #[d.v,m.v] V λe V'=>V.sub V'/\((An d m/\∃s:Sl,e=rT #[uL s,uI 0]/\Ae V' s 2 ((allP d m).map H8))∨(¬An d m/\e=rT #[z0,uI 1])):=by
 refine x109 ?_;refine Tri.mono (c143 hd hm) ?_;rintro _ V1 (⟨p,kb,bb,rfl,S,M⟩|⟨hG,rfl,hs⟩);rotate_left;.exact⟨_,_,rfl,λh=>absurd h (by decide),λ_=>⟨hs,.inr ⟨hG,rfl⟩⟩⟩
 have G:=S.good;haveI:Tab V1:=Tab.sub (V:=V) inferInstance M.sub;refine⟨_,_,rfl,λ_=>Tri.mono (c144 G.valid G.mem (hd.sub M.sub) (hm.sub M.sub)) ?_,λh=>absurd rfl h⟩;rintro _ V2 ⟨o,rfl,ho,hcap,hrng⟩;refine⟨o,_,rfl,λ_=>?_,λh=>absurd rfl h⟩;have M2:=M.grow ho.sub;have hsW:=no3_sub V2 p kb bb;have A:V.sub (Mem.no3 V2 p kb bb):=λc x hc=>no3_at (M2.sub _ _ hc) (λe=>by rw[e,S.p0]at hc;cases hc) (λe=>by rw[e,S.k0]at hc;cases hc) (λe=>by rw[e,S.b0]at hc;cases hc);have S':Dp (Mem.no3 V2 p kb bb) d m p kb bb:=⟨G,hd.sub A,hm.sub A,LU (.inl rfl),LU (.inr (.inl rfl)),LU (.inr (.inr rfl)),S.pk,S.pb,S.kb⟩;have hoW:Ae (Mem.no3 V2 p kb bb) o 1 ((BN d m).order.map Aw):=by
  have:Sx.Own (λ_=>none) (Mem.no3 V2 p kb bb) 3 1 o ((BN d m).order.flatMap Aw):=⟨(λ_ _ h=>by cases h),ho.len,by
   rcases ho.at_ with h|⟨g,cur,a,b,c,dd⟩;.exact .inl h
   .refine .inr ⟨g,cur,a,rfl,no3_at c (λe=>?_) (λe=>?_) (λe=>?_),dd⟩;.rw[e,M.at_]at b;cases b
    .obtain⟨e1,c1,k1,-⟩:=M.known.at_;rw[e,k1]at b;cases b
    .obtain⟨e1,c1,k1,-⟩:=M.busy.at_;rw[e,k1]at b;cases b⟩
  exact this.rows (λ_=>rfl) (by decide)
 have hnl:∀v:Iv,(A9 d m v).length<=4097:=λv=>by
  unfold A9;have:=(BR G.mem).2.1;split;.simp
  .omega
 have hil:=validD_lens G.valid;refine DJ (mk:=uL) (b0:=⟨none,0,0⟩) AT d.invs.length (λi s V3=>Dh (Mem.no3 V2 p kb bb) d m p kb bb V3 s ((d.invs.take i).flatMap λv=>BQ d m v (A9 d m v))) ⟨Own.nil hsW _ _,LQ,⟨hsW,M2.at_,M2.known,M2.busy⟩,λ_ _ h=>by cases h⟩ ?_;rintro i s V3 J hi B hJ;have I:=(hd.sub A).sub B.own.sub;refine⟨λL=>?_,λhge=>?_⟩
 .obtain⟨v,hvm,hv,-,hil',hp,hz,hrow⟩:=I.invs.get L;have hflat:=flat_len (d:=d) (m:=m) (l:=d.invs.take i) λv _=>hnl v;have htl:(d.invs.take i).length<=12:=by rw[vo];omega
  have hA:((d.invs.take i).flatMap λv=>BQ d m v (A9 d m v)).length+(A9 d m v).length<=2147483000:=by
   have:=hnl v;have:(d.invs.take i).length*4097<=12*4097:=xK _ htl;omega
  have next:∀s' V',Dh (Mem.no3 V2 p kb bb) d m p kb bb V' s' (((d.invs.take i).flatMap λv=>BQ d m v (A9 d m v))++BQ d m v (A9 d m v))->J [uL s',uI ((i:Int)+1)] V':=λs' V' h=>hJ hil' _ _ (by
   rw[vq,hv,List.flatMap_append];simpa using h)
  refine⟨hp,hz,L,_,_,_,_,_,_,hrow,λD=>λtb R=>?_,λD=>?_⟩
  .have D:v.ty=sE:=D;have K:A9 d m v=[0]:=by unfold A9;rw[if_pos D]
   rw[K]at hA next
   have hwS:=B.wideS S' R (.cells #[uI 0] 3 (0,0));have hw3:=B.wide R (.cells #[uI 0] 3 (0,0));have hW0:Mem.no3 V2 p kb bb tb=none:=by
    cases hc:Mem.no3 V2 p kb bb tb with
    |none=>rfl
    |some x=>rw[B.own.sub _ _ hc]at R;cases R
   have hsub:=Mem.sub_new hW0 (.cells #[uI 0] 3 (0,0));have T:Ae ((Mem.no3 V2 p kb bb).set tb (.cells #[uI 0] 3 (0,0))) ⟨some ⟨tb,0,none⟩,1,1⟩ 1 ([(0:Int)].map Aw):=Hn Av;refine DJ (mk:=uL) (b0:=s) AT 1 (λj s' V'=>Dh ((Mem.no3 V2 p kb bb).set tb (.cells #[uI 0] 3 (0,0))) d m p kb bb V' s' (((d.invs.take i).flatMap λv=>BQ d m v (A9 d m v))++BQ d m v ([0].take j))) ?_ ?_;.simpa [BQ]using hw3
   .rintro j s4 V4 J1 hj X U;have O:=T.sub X.own.sub;refine⟨λH=>?_,λY=>?_⟩
    .obtain⟨n,hnm,hn,-,hjl,hpo,hzo,Z⟩:=O.get (i:=j) H;have hn0:n=0:=by simpa using hnm
     exact⟨nn,hzo,H,_,Z,allRound hwS hvm X hn ⟨by omega,by omega⟩ hA (O.succ (i:=j) H) λs' V' h'=>U hjl _ _ h'⟩
    .have Y:¬(j:Int)<1:=Y;rw[show([0]:XZ).take j=[0]from wm (by show 1<=j;omega)]at X;exact⟨I.invs.succ L,next _ _ (X.narrow hsub)⟩
  .have D:¬v.ty=sE:=D;have K:A9 d m v=(BN d m).order:=by unfold A9;rw[if_neg D]
   rw[K]at hA next
   refine DJ (mk:=uL) (b0:=s) AT (BN d m).order.length (λj s' V'=>Dh (Mem.no3 V2 p kb bb) d m p kb bb V' s' (((d.invs.take i).flatMap λv=>BQ d m v (A9 d m v))++BQ d m v ((BN d m).order.take j))) ?_ ?_;.simpa [BQ]using B
   .rintro j s4 V4 J1 hj X U;have O:=hoW.sub X.own.sub;refine⟨λH=>?_,λY=>?_⟩
    .obtain⟨n,hnm,hn,-,hjl,hpo,hzo,Z⟩:=O.get H;have hr:=hrng n hnm;exact⟨hpo,hzo,H,_,Z,allRound S' hvm X hn ⟨by omega,hr.2⟩ hA (O.succ H) λs' V' h'=>U hjl _ _ h'⟩
    .have hdn:=(O.done Y).2;rw[wm hdn]at X;exact⟨I.invs.succ L,next _ _ X⟩
 .have hdn:=(I.invs.done hge).2;rw[wm hdn]at B;exact⟨A.trans B.own.sub,.inl ⟨G,s,rfl,B.own.rows (λ_=>rfl) (by decide)⟩⟩
theorem rowp_add0(V:Mem)(p:XI)(k n:Nat):V.rowp (Aa p k) 0 n=V.rowp p k n:=by
 cases p with
 |none=>rfl
 |some a=>
  show V.row ((a.add k).add 0) n=V.row (a.add k) n;rw[JI,Nat.add_zero]
inductive CheP (d:Ds)(m:Mm):Bool->KB->Int->Int->Prop where
 |arg (h:¬An d m):CheP d m false sE 0 1
 |ok (h:An d m) (h1:allP d m=[]):CheP d m true sE 0 0
 |bad (h:An d m) {x:KB×Int} {l:List (KB×Int)} (h1:allP d m=x::l):CheP d m false x.1 x.2 0
theorem Qy[Tab V](A:Ds.Ok V d)(hm:Mm.Ok V m):Tri xV 62 #[d.v,m.v] V λe V'=>V'=V/\∃b s x f,e=rT #[.bool b,.agg #[uS s,uI x],uI f]/\CheP d m b s x f:=by
 refine Tri.less ?_;refine Pn ?_;refine Tri.mono (c109 A hm) ?_;rintro _ V1 ⟨Z,⟨G,s,rfl,hr⟩|⟨I,rfl⟩⟩
 .refine⟨s,_,rfl,λ_=>⟨λH=>?_,λY=>?_⟩,λh=>absurd rfl h⟩
  .obtain⟨x,L,R,J,hl,hp,O,o⟩:=hr.get (i:=0) H;refine⟨hp,O,H,_,_,o,(rowp_add0 _ _ _ _).trans o,hp,O,H,V,⟨rfl,_,_,_,_,rfl,.bad (l:=(allP d m).drop 1) G (by rw[List.drop_zero]at J;exact J)⟩,Z⟩
  .have:=(hr.done (i:=0) Y).2;exact⟨V,⟨rfl,_,_,_,_,rfl,.ok G (xI (by omega))⟩,Z⟩
 .exact⟨⟨none,0,0⟩,_,rfl,λh=>absurd h (by decide),λ_=>⟨V,⟨rfl,_,_,_,_,rfl,.arg I⟩,Z⟩⟩
end
end Go.Proofs
namespace Go.Sx
open Go
section
variable{P:Program}{n:Nat}{ops:XW}{Q:Exit->Act->World->Prop}
theorem NN{F:Fence}{i:Nat}{o:Oper}{a:Act}{w:World}{K:Act->World->Prop}(ho:ops[i]?=some o)(Y:o.guard=none)(h:wpOpIn F n P ops Q i K a w):wpOpIn F n P ops Q i (λZ w'=>(∃v,Z.tmps=(a.put o.dst v).tmps)/\K Z w') a w:=by
 unfold wpOpIn at*
 simp only[ho]at*
 have hw:=Gb (ops:=ops) (a:=a) Y;rw[if_pos hw]at h⊢;unfold Oper.wpIn at*
 refine⟨h.1,?_⟩;have h:=h.2;generalize(o.semAt F.round a.eval).run P w=r at*
 have H:∀(ds:List Deferred)(v:Value),(({a with defers:=ds}:Act).put o.dst v).tmps=(a.put o.dst v).tmps:=λds v=>by
  cases o.dst<;>rfl
 cases r with
 |ok x w'=>
  cases x<;>simp only[vY]at h⊢<;>
   first
    |exact⟨⟨_,rfl⟩,h⟩
    |exact⟨⟨_,H _ _⟩,h⟩
    |exact⟨h.1,vm h.2 (λe J he=>by cases e<;>first|exact⟨⟨_,rfl⟩,he⟩|exact he)⟩
    |exact⟨h.1,RowsIn.mono h.2 (λ_ _ he=>⟨⟨_,rfl⟩,he⟩)⟩
    |exact⟨h.1,vl h.2 (λe J he=>by cases e<;>first|exact⟨⟨_,rfl⟩,he⟩|exact he)⟩
    |exact h
 |halt x w'=>cases x<;>simp only[vY]at h⊢<;>exact h
theorem NO{F:Fence}{i:Nat}{o:Oper}{a:Act}{w:World}{K Z:Act->World->Prop}{H:Exit->Act->World->Prop}(ho:ops[i]?=some o)(Y:o.guard=none)(h:wpOpIn F n P ops H i K a w)(hp:∀O a w,¬H (.panic O) a w)(hl:¬LetsOut H)(hK:∀a w,K a w->Z a w):
  wpOpIn F n P ops Q i Z a w:=by
 unfold wpOpIn at*
 simp only[ho]at*
 have hw:=Gb (ops:=ops) (a:=a) Y;rw[if_pos hw]at h⊢;unfold Oper.wpIn at*
 refine⟨h.1,?_⟩;have h:=h.2;generalize(o.semAt F.round a.eval).run P w=r at*
 cases r with
 |ok x w'=>
  cases x<;>simp only[vY]at h⊢<;>
   first
    |exact hK _ _ h
    |exact⟨h.1,vm h.2 (λe J he=>by cases e<;>first|exact hK _ _ he|exact(hp _ _ _ he).elim|exact(hl he).elim)⟩
    |exact⟨h.1,RowsIn.mono h.2 (λ_ _ he=>hK _ _ he)⟩
    |exact⟨h.1,vl h.2 (λe J he=>by cases e<;>first|exact hK _ _ he|exact(hp _ _ _ he).elim|exact(hl he).elim)⟩
    |exact h
 |halt x w'=>
  cases x<;>simp only[vY]at h⊢;all_goals first|exact(hp _ _ _ h).elim|exact h
def GN(ops:XW)(i:Nat):XA:=((ops[i]?).map λo=>(o.after.toList.filter (yy .any)).map (·.on)).getD []
def anyOk(ops:XW)(M k0:Nat)(deps:Nat->XA):Bool:=
 decide (ops.size=M+1)&&decide ((ops[M]?).map (·.dst)=some none)&&(zC M).all (λi=>decide ((ops[i]?).map (·.dst)=some (some (k0+i))))&&(zC (M+1)).all (λi=>((ops[i]?).map λo=>o.guard.isNone).getD false&&(GN ops i).all (λj=>decide (j<i))&&(deps i).all λj=>decide (j∈GN ops i)) &&
  (zC M).all λj=>(zC (M+1)).any λi=>decide (j<i)&&decide (j∈GN ops i)
theorem NP{ops:XW}{listed:Array Bool}{i:Nat}(h:i∈ym .any ops listed):i<ops.size/\listed.getD i true=false/\∀j∈GN ops i,listed.getD j false=true:=by
 unfold ym at h;rw[yl,yo,zD]at h;refine⟨h.1,by simpa using h.2.1,λj H=>?_⟩;unfold GN at H;have h2:=h.2.2;cases ho:ops[i]? with
 |none=>rw[ho]at H;simp at H
 |some o=>
  rw[ho]at H h2;simp only[zR,xb,vk,yl,vj,wN]at H h2;obtain⟨e,⟨he,hb⟩,rfl⟩:=H;have:=h2 e he;rw[hb]at this;simpa using this
theorem ready_in{ops:XW}{listed:Array Bool}{i:Nat}(hi:i<ops.size)(h1:listed.getD i true=false)(h2:∀j∈GN ops i,listed.getD j false=true):i∈ym .any ops listed:=by
 unfold ym;rw[yl,yo,zD];refine⟨hi,by simp[h1],?_⟩;have ho:ops[i]?=some ops[i]:=Array.getElem?_eq_getElem hi;unfold GN at h2;rw[ho]at h2⊢;simp only[zR,xb,vk,yl,vj,wN]at h2⊢;intro e he;cases hb:yy .any e with
 |false=>rfl
 |true=>simpa using h2 e.on ⟨e,⟨he,hb⟩,rfl⟩
theorem Kk{l:Array Bool}{i:Nat}(hi:i<l.size)(a b:Bool):l.getD i a=l.getD i b:=by simp[yL,hi]
def unl(listed:Array Bool)(M:Nat):Nat:=((zC M).filter λi=>!listed.getD i true).length
theorem filt_le{α:Type}{p q:α->Bool}:∀{l:List α},(∀a∈l,q a=true->p a=true)->(l.filter q).length<=(l.filter p).length
 |[],_=>yu _
 |a::l,h=>by
  have o:=filt_le (l:=l) λx H=>h x (yJ _ H);have ha:=h a yI;rw[yM,yM];cases J:q a with
  |true=>rw[ha J];simpa using o
  |false=>
   cases hp:p a with
   |true=>simp;omega
   |false=>simpa using o
theorem filt_lt{α:Type}{p q:α->Bool}:∀{l:List α},(∀a∈l,q a=true->p a=true)->∀a∈l,p a=true->q a=false->(l.filter q).length<(l.filter p).length
 |[],_,a,ha,_,_=>by cases ha
 |b::l,h,a,ha,hp,H=>by
  have J:∀x∈l,q x=true->p x=true:=λx Y=>h x (yJ _ Y);rw[yM,yM];rcases zJ.1 ha with rfl|hm
  .rw[hp,H];have:=filt_le J;simp;omega
  .have Z:=filt_lt J a hm hp H;have hb:=h b yI;cases o:q b with
   |true=>rw[hb o];simpa using Z
   |false=>
    cases O:p b with
    |true=>simp;omega
    |false=>simpa using Z
theorem unl_set{listed:Array Bool}{M i:Nat}(hi:i<M)(J:listed.size=M)(h:listed.getD i true=false):unl (listed.setIfInBounds i true) M<unl listed M:=by
 have h1:(listed.setIfInBounds i true).getD i true=true:=by simp[yL,J,hi]
 refine filt_lt (λj _ o=>?_) i (yo.2 hi) (by rw[h];rfl) (by rw[h1];rfl);by_cases H:j=i;.subst H;rw[h1]at o;cases o
 .have:(listed.setIfInBounds i true).getD j true=listed.getD j true:=by
   simp[wx,wv (Ne.symm H)]
  rw[this]at o;exact o
theorem unl_zero{listed:Array Bool}{M:Nat}(o:listed.size=M)(h:unl listed M=0):∀i,i<M->listed.getD i false=true:=λi hi=>by
 unfold unl at h;have:=xI h;rw[List.filter_eq_nil_iff]at this;have:=this i (yo.2 hi);rw[Kk (by omega) false true];simpa using this
section
variable{M k0 N:Nat}{deps:Nat->XA}{Pr:Nat->Value->Mem->Prop}{Φ:Mem->Prop}{V:Mem}{base:List (Nat×Value)}{a0:Act}{w0:World}
theorem anyR_sound(chk:anyOk ops M k0 deps=true)(mono:∀i v V1 V2,V1.sub V2->Pr i v V1->Pr i v V2)(hbase:∀s v,base.lookup s=some v->s<k0)
  (hN:k0+M<=N)
  (hstep:∀i,i<M->∀V1,V.sub V1->∀val:Nat->Value,(∀j∈deps i,Pr j (val j) V1)->∃J,(∀s v,J.lookup s=some v->base.lookup s=some v∨∃j∈deps i,s=k0+j/\v=val j)/\CS P N ops i 1 J [k0+i] V1 λvs V2=>∃v,vs=[v]/\V1.sub V2/\Pr i v V2)
  (hlast:∀V1,V.sub V1->∀val:Nat->Value,(∀j∈deps M,Pr j (val j) V1)->∃J,(∀s v,J.lookup s=some v->base.lookup s=some v∨∃j∈deps M,s=k0+j/\v=val j)/\CS P N ops M 1 J [] V1 λ_ V2=>Φ V2)
  (hQ:∀T w' V',T.defers=a0.defers->Has N T base->Φ V'->Ax V w0 V' w'->Q .normal T w'):
  ∀(fuel:Nat)(listed:Array Bool)(a:Act)(w:World),listed.size=M+1->unl listed (M+1)<=fuel->
   ((∃V1,V.sub V1/\Ax V w0 V1 w/\a.defers=a0.defers/\Has N a base/\listed.getD M false=false/\(∀i,i<M->listed.getD i false=true->Pr i (a.tmps.getD (k0+i) undef) V1)/\∀i,i<M->listed.getD i false=true->∀j∈GN ops i,listed.getD j false=true)∨((∀i,i<M+1->listed.getD i false=true)/\Q .normal a w))->
   wpAnyIn (AB none) n P .any ops Q fuel listed a w:=by
 unfold anyOk at chk;simp only[zD,decide_eq_true_eq,yK,yo,xg]at chk;obtain⟨⟨⟨⟨c1,c0⟩,c2⟩,c3⟩,c4⟩:=chk;have op:∀i,i<M+1->∃o,ops[i]?=some o/\o.guard=none:=λi hi=>by
  have:=(c3 i hi).1.1;cases ho:ops[i]? with
  |none=>rw[ho]at this;cases this
  |some o=>
   rw[ho]at this;refine⟨o,rfl,?_⟩;cases hg:o.guard with
   |none=>rfl
   |some g=>simp[hg]at this
 have O:∀listed:Array Bool,listed.size=M+1->ym .any ops listed=[]->∀i,i<M+1->listed.getD i false=true:=λlisted hs hr i=>by
  induction i using Nat.strongRecOn with
  |ind i ih=>
   intro hi;cases h:listed.getD i false with
   |true=>rfl
   |false=>
    have:i∈ym .any ops listed:=ready_in (by omega) (by rw[Kk (by omega) true false];exact h) λj L=>by
     have Z:=(c3 i hi).1.2 j L;exact ih j Z (by omega)
    rw[hr]at this;cases this
 intro fuel;induction fuel with
 |zero=>
  intro listed a w hs hu hI;have Y:=unl_zero hs (by omega);rw[wpAnyIn];rcases hI with⟨V1,-,-,-,-,hM,-⟩|⟨-,hq⟩;.rw[Y M (by omega)]at hM;cases hM
  .refine⟨?_,hq⟩;cases hr:ym .any ops listed with
   |nil=>rfl
   |cons i l=>
    obtain⟨h1,h2,-⟩:=NP (hr▸yI:i∈ym .any ops listed);rw[Kk (by omega) true false,Y i (by omega)]at h2;cases h2
 |succ fuel ih=>
  intro listed a w hs hu hI;rw[wpAnyIn];refine⟨λhr=>?_,λi hi=>?_⟩
  .rcases hI with⟨V1,-,-,-,-,hM,-⟩|⟨-,hq⟩;.rw[O listed hs hr M (by omega)]at hM;cases hM
   .exact hq
  .obtain⟨h1,h2,h3⟩:=NP hi;have A:i<M+1:=by omega
   rcases hI with⟨V1,R,hF,hdf,hH,hM,hP,hC⟩|⟨Y,-⟩;rotate_left;.rw[Kk (by omega) true false,Y i A]at h2;cases h2
   obtain⟨o,ho,hg⟩:=op i A;have hs':(listed.setIfInBounds i true).size=M+1:=by simp[hs]
   have hu':unl (listed.setIfInBounds i true) (M+1)<=fuel:=by have:=unl_set A hs h2;omega
   have I:(listed.setIfInBounds i true).getD i false=true:=by simp[yL,hs,A]
   have H:∀j,j≠i->(listed.setIfInBounds i true).getD j false=listed.getD j false:=λj L=>by
    simp[wx,wv (Ne.symm L)]
   have hdeps:∀j∈deps i,j<i/\listed.getD j false=true:=λj L=>⟨(c3 i A).1.2 j ((c3 i A).2 j L),h3 j ((c3 i A).2 j L)⟩;have hval:∀j∈deps i,Pr j (a.tmps.getD (k0+j) undef) V1:=λj L=>by
    have:=hdeps j L;exact hP j (by omega) this.2
   have hin:∀(J:List (Nat×Value)),(∀s v,J.lookup s=some v->base.lookup s=some v∨∃j∈deps i,s=k0+j/\v=a.tmps.getD (k0+j) undef)->∀s v,J.lookup s=some v->a.tmps.getD s undef=v:=λJ h s v hl=>by
    rcases h s v hl with h|⟨j,-,rfl,rfl⟩;.exact hH.2 s v h
    .rfl
   by_cases U:i<M
   .obtain⟨J,X,B⟩:=hstep i U V1 R (λj=>a.tmps.getD (k0+j) undef) hval;have hw:=B none n a w hF.le hH.1 (hin J X);rw[show List.range' i 1=[i]from rfl,wpOpsIn_cons]at hw;have D:o.dst=some (k0+i):=by have:=c2 i U;rw[ho]at this;simpa using this
    have hfin:wpOpIn (AB none) n P ops Q i (wpAnyIn (AB none) n P .any ops Q fuel (listed.setIfInBounds i true)) a w:=by
     refine NO ho hg (NN ho hg hw) (λ_ _ _ h=>by cases h.1) (λh=>by obtain⟨_,_,h,_⟩:=h;cases h) ?_;rintro T w' ⟨⟨v,hv⟩,-,hd',hs2,vs,V2,hlook,⟨u,rfl,K,hPu⟩,hF2⟩;rw[D]at hv;have hget:∀s,s≠k0+i->T.tmps.getD s undef=a.tmps.getD s undef:=λs hne=>by
      rw[hv];simp[Act.put,wx,wv (Ne.symm hne)]
     refine ih _ T w' hs' hu' (.inl ⟨V2,R.trans K,hF.trans hF2,hd'.trans hdf,⟨hs2,λs v hs3=>?_⟩,?_,λj L hl=>?_,λj L hl k hk=>?_⟩);.rw[hget s (by have:=hbase s v hs3;omega)];exact hH.2 s v hs3
     .rw[H M (by omega)];exact hM
     .by_cases Z:j=i
      .subst Z;have:=hlook (k0+j) u (by simp);rw[this];exact hPu
      .rw[hget (k0+j) (by omega)];rw[H j Z]at hl;exact mono _ _ _ _ K (hP j L hl)
     .by_cases Z:j=i
      .subst Z;by_cases hkj:k=j;.rw[hkj];exact I
       .rw[H k hkj];exact h3 k hk
      .rw[H j Z]at hl;by_cases hki:k=i;.rw[hki];exact I
       .rw[H k hki];exact hC j L hl k hk
    exact hfin
   .have U:i=M:=by omega
    subst U;have Y:∀k,k<=i->∀j,i-k<=j->j<i->listed.getD j false=true:=λk=>by
     induction k with
     |zero=>intro _ j h4 h5;omega
     |succ k ihk=>
      intro hk j h4 h5;obtain⟨b,hb1,hb2,hb3⟩:=c4 j h5;by_cases hbi:b=i;.subst hbi;exact h3 j hb3
      .exact hC b (by omega) (ihk (by omega) b (by omega) (by omega)) j hb3
    obtain⟨J,X,B⟩:=hlast V1 R (λj=>a.tmps.getD (k0+j) undef) hval;have hw:=B none n a w hF.le hH.1 (hin J X);rw[show List.range' i 1=[i]from rfl,wpOpsIn_cons]at hw;have D:o.dst=none:=by rw[ho]at c0;simpa using c0
    refine NO ho hg (NN ho hg hw) (λ_ _ _ h=>by cases h.1) (λh=>by obtain⟨_,_,h,_⟩:=h;cases h) ?_;rintro T w' ⟨⟨u,hu''⟩,-,hd',hs2,vs,V2,-,hΦ,hF2⟩;rw[D]at hu'';have hu3:T.tmps=a.tmps:=hu'';refine ih _ T w' hs' hu' (.inr ⟨λj L=>?_,hQ T w' V2 (hd'.trans hdf) ⟨by rw[hu3];exact hH.1,λs v hs3=>by rw[hu3];exact hH.2 s v hs3⟩ hΦ (hF.trans hF2)⟩);by_cases Z:j=i;.rw[Z];exact I
    .rw[H j Z];exact Y i (yu _) j (by omega) (by omega)
end
end
end Go.Sx
namespace Go.Proofs
open Go Go.Sx
attribute [local irreducible] Go.Sx.Tri
instance inI_dec (n:Int):Decidable (Ev n):=by unfold Ev;infer_instance
section
variable{V V6:Mem}{s:Sl}{l:XZ}{last:Int}{m:Mm}
theorem GO{p q B X:Prop}(H:(¬p∨¬q)->X)(J:p->q->B):Br p (Br q B X) X:=⟨λhp=>⟨λo=>J hp o,λo=>H (.inr o)⟩,λhp=>H (.inl hp)⟩
end
section
variable{V:Mem}{d:Ds}{m:Mm}
def RI(V:Mem):RP:=λe V'=>V=V'/\∃r:Int,e=Id r/\-1<=r/\r<=2000
def RY(V:Mem):RP:=λe V'=>V=V'/\∃b:Bool,e=EQ b
theorem RI.mk{r:Int}(h:-1<=r/\r<=2000):RI V (Id r) V:=⟨rfl,r,rfl,h⟩
theorem RY.mk{b:Bool}:RY V (EQ b) V:=⟨rfl,b,rfl⟩
theorem leftC:∀(k:Nat),k<=65->∀(e:E)(n:Int),E.Ok V e->-1<=n->n<=2000->Tri xV 101 #[e.v,uI k,uI n] V (RI V):=by
 intro k;induction k with
 |zero=>
  intro _ e n he h1 h2;refine Tri.mono (x101 (R:=RI V) ?_) λ_ _ h=>h;exact⟨λ_=>.mk ⟨by omega,by omega⟩,λ_=>⟨λ_=>.mk ⟨by omega,by omega⟩,λh=>absurd rfl h⟩⟩
 |succ k L=>
  intro hk e n he h1 h2;refine Tri.mono (x101 (R:=RI V) ?_) λ_ _ h=>h;refine⟨λ_=>.mk ⟨by omega,by omega⟩,λI=>⟨λ_=>.mk ⟨by omega,by omega⟩,λ_=>⟨λ_=>.mk ⟨by omega,by omega⟩,λ_=>⟨⟨by omega,by omega⟩,?_⟩⟩⟩⟩;have I:¬n<=0:=I;refine DJ (mk:=.int .i64) (b0:=n-1) BJ e.k.length (λi a V1=>V=V1/\-1<=a/\a<=2000) ⟨rfl,by omega,by omega⟩ ?_;rintro i a V1 J hi ⟨rfl,H,Z⟩ X;refine GO (λ_=>.mk ⟨H,Z⟩) (λo hn=>?_);obtain⟨x,O,K,-,A,hp,B,Y⟩:=he.rows.get o;refine⟨hp,B,o,_,_,_,_,Y,⟨by omega,by omega⟩,?_⟩;rw[show((k+1:Nat):Int)-1=(k:Int)by omega];refine Tri.mono (L (by omega) x a (he.kids x O) H Z) ?_;rintro _ _ ⟨rfl,r,rfl,D⟩;exact⟨_,rfl,he.rows.succ o,X A _ _ ⟨rfl,D⟩⟩
theorem leftAllC:∀(k:Nat),k<=65->∀(s:Sl)(xs:XK)(n:Int),Ae V s 5 (xs.map S.row)->(∀x∈xs,S.Ok V x)->-1<=n->n<=2000->Tri xV 100 #[s.v,uI k,uI n] V (RI V):=by
 intro k;induction k with
 |zero=>
  intro _ s xs n hr ho h1 h2;refine Tri.mono (x100 (R:=RI V) ?_) λ_ _ h=>h;exact⟨λ_=>.mk ⟨by omega,by omega⟩,λh=>absurd rfl h⟩
 |succ k ih=>
  intro hk s xs n hr ho h1 h2;refine Tri.mono (x100 (R:=RI V) ?_) λ_ _ h=>h;refine⟨λ_=>.mk ⟨by omega,by omega⟩,λ_=>?_⟩;refine Gx (mk:=.int .i64) (mc:=.int .i64) 0 n BJ xs.length (λi a V1=>V=V1/\-1<=a/\a<=2000) ⟨rfl,h1,h2⟩ ?_;rintro i b a V1 J hi ⟨rfl,K,T⟩ U;refine GO (λ_=>.mk ⟨K,T⟩) (λH hn=>?_);have hn:0<=a:=hn;obtain⟨x,hxm,hx,-,O,hp,X,o⟩:=hr.get H;have hxo:=ho x hxm;cases x with
  |mk op sn el es ll ls xl xs'=>
  cases hxo with
  |mk he hes hl hls hxr hxs hop=>
  have B:=Ai (n:=i*5) hp;have Z:=hr.succ H;refine⟨⟨by omega,by omega⟩,hp,X,H,B,_,_,_,_,_,o,λ_=>.mk ⟨by omega,by omega⟩,λ_=>?_⟩;refine DJ (mk:=.int .i64) (b0:=a-1) BJ es.length (λj c V2=>V=V2/\-1<=c/\c<=2000) ⟨rfl,by omega,by omega⟩ ?_;rintro j c V2 J1 hj ⟨rfl,A,I⟩ hJ1;have ek:((k+1:Nat):Int)-1=(k:Int):=by omega
  refine⟨hp,X,H,B,_,_,_,_,_,o,GO (λ_=>⟨λhc=>⟨hp,X,H,B,_,_,_,_,_,o,⟨by omega,by omega⟩,?_⟩,λhc=>⟨λh=>absurd h hc,λ_=>⟨Z,U O _ _ _ ⟨rfl,A,I⟩⟩⟩⟩) (λY hc=>?_)⟩
  .rw[ek];refine Tri.mono (ih (by omega) ll ls c hl hls A I) ?_;rintro _ _ ⟨rfl,r,rfl,D⟩;refine⟨_,rfl,λhr0=>⟨hp,X,H,B,_,_,_,_,_,o,⟨by omega,by omega⟩,Tri.mono (ih (by omega) xl xs' r hxr hxs D.1 D.2) ?_⟩,λ_=>⟨Z,U O _ _ _ ⟨rfl,D⟩⟩⟩;rintro _ _ ⟨rfl,r2,rfl,h4⟩;exact⟨_,rfl,Z,U O _ _ _ ⟨rfl,h4⟩⟩
  .obtain⟨y,hym,hy,-,hjl,hpy,hzy,L⟩:=he.get Y;refine⟨hp,X,H,B,_,_,_,_,_,o,hpy,hzy,Y,_,_,_,_,L,Tri.mono (leftC 65 (by omega) y c (hes y hym) A I) ?_⟩;rintro _ _ ⟨rfl,r,rfl,D⟩;exact⟨_,rfl,he.succ Y,hJ1 hjl _ _ ⟨rfl,D⟩⟩
theorem wideC{l:Sl}{xs:XX}(hr:Ae V l 2 (xs.map Fld.row)):Tri xV 99 #[l.v] V (RY V):=by
 refine Tri.mono (P4 (R:=RY V) ?_) λ_ _ h=>h;refine⟨λ_=>.mk,λ_=>AG (mk:=.bool) (b0:=false) xs.length (λi V1=>V=V1) rfl ?_⟩;rintro i b V1 J hi rfl A;refine⟨λo=>?_,λ_=>.mk⟩;obtain⟨x,I,L,-,Z,hp,Y,H⟩:=hr.get o;have O:=Ai (n:=i*2) hp;exact⟨hp,Y,o,O,_,_,H,λ_=>.mk,λ_=>⟨hp,Y,o,O,_,_,H,λ_=>.mk,λ_=>⟨hr.succ o,A Z _ _ rfl⟩⟩⟩
theorem overC(I:Ds.Ok V d){n:Int}(h1:-1<=n)(h2:n<=2000):Tri xV 54 #[d.v,uI n] V (RY V):=by
 refine Tri.mono (Pg (R:=RY V) ?_) λ_ _ h=>h;refine⟨λ_=>.mk,λ_=>⟨λ_=>.mk,λ_=>⟨λ_=>.mk,λ_=>⟨λ_=>.mk,λ_=>⟨λ_=>.mk,λ_=>⟨λ_=>.mk,λ_=>⟨λ_=>.mk,λ_=>Tri.mono (wideC I.globals) ?_⟩⟩⟩⟩⟩⟩⟩;rintro _ _ ⟨rfl,b,rfl⟩;refine⟨_,rfl,λ_=>.mk,λ_=>AG (mk:=.bool) (b0:=false) d.types.length (λi V1=>V=V1) rfl ?_⟩;rintro i b V1 J hi rfl B;refine⟨λo=>?_,λ_=>?_⟩
 .obtain⟨x,O,K,-,A,hp,L,H⟩:=I.types.get o;have X:=Ai (n:=i*2) hp;refine⟨hp,L,o,X,_,_,H,λ_=>.mk,λ_=>⟨hp,L,o,X,_,_,H,Tri.mono (wideC (I.typesOk x O).fields) ?_⟩⟩;rintro _ _ ⟨rfl,b,rfl⟩;exact⟨_,rfl,λ_=>.mk,λ_=>⟨I.types.succ o,B A _ _ rfl⟩⟩
 refine Gx (mk:=.bool) (mc:=.int .i64) b n BJ d.procs.length (λi a V1=>V=V1/\-1<=a/\a<=2000) ⟨rfl,h1,h2⟩ ?_;rintro i b a V1 J hi ⟨rfl,Z,Y⟩ B;refine GO (λ_=>?_) (λo hn=>?_);rotate_left
 .obtain⟨x,O,K,-,A,hp,L,H⟩:=I.procs.get o;have ho:=I.procsOk x O;refine⟨hp,L,o,_,_,_,_,_,H,λ_=>.mk,λ_=>⟨λ_=>.mk,λ_=>Tri.mono (wideC ho.params) ?_⟩⟩;rintro _ _ ⟨rfl,b1,rfl⟩;refine⟨_,rfl,λ_=>.mk,λ_=>Tri.mono (wideC ho.locals) ?_⟩;rintro _ _ ⟨rfl,b2,rfl⟩;refine⟨_,rfl,λ_=>.mk,λ_=>Tri.mono (leftAllC 65 (by omega) x.bs x.body a ho.body ho.stmts Z Y) ?_⟩;rintro _ _ ⟨rfl,r,rfl,D⟩;exact⟨_,rfl,I.procs.succ o,B A _ _ _ ⟨rfl,D⟩⟩
 refine Gx (mk:=.bool) (mc:=.int .i64) b a BJ d.measures.length (λi a V1=>V=V1/\-1<=a/\a<=2000) ⟨rfl,Z,Y⟩ ?_;clear B;rintro i b a V1 J hi ⟨rfl,Z,Y⟩ B;refine GO (λ_=>?_) (λo hn=>?_);rotate_left
 .obtain⟨x,O,K,-,A,hp,L,H⟩:=I.measures.get o;have X:=Ai (n:=i*7) hp;refine⟨hp,L,o,X,_,_,_,_,_,_,_,H,λ_=>.mk,λ_=>⟨hp,L,o,X,_,_,_,_,_,_,_,H,λ_=>.mk,λ_=>⟨hp,L,o,X,_,_,_,_,_,_,_,H,Tri.mono (leftC 65 (by omega) x.x a (I.measuresOk x O).x Z Y) ?_⟩⟩⟩;rintro _ _ ⟨rfl,r,rfl,D⟩;exact⟨_,rfl,I.measures.succ o,B A _ _ _ ⟨rfl,D⟩⟩
 refine Gx (mk:=.bool) (mc:=.int .i64) b a BJ d.invs.length (λi a V1=>V=V1/\-1<=a/\a<=2000) ⟨rfl,Z,Y⟩ ?_;clear B;rintro i b a V1 J hi ⟨rfl,Z,Y⟩ B;refine GO (λ_=>?_) (λo hn=>?_);rotate_left
 .obtain⟨x,O,K,-,A,hp,L,H⟩:=I.invs.get o;have X:=Ai (n:=i*6) hp;refine⟨hp,L,o,X,_,_,_,_,_,_,H,λ_=>.mk,λ_=>⟨hp,L,o,X,_,_,_,_,_,_,H,λ_=>.mk,λ_=>⟨hp,L,o,X,_,_,_,_,_,_,H,Tri.mono (leftC 65 (by omega) x.x a (I.invsOk x O) Z Y) ?_⟩⟩⟩;rintro _ _ ⟨rfl,r,rfl,D⟩;exact⟨_,rfl,I.invs.succ o,B A _ _ _ ⟨rfl,D⟩⟩
 refine Gx (mk:=.bool) (mc:=.int .i64) b a BJ d.pots.length (λi a V1=>V=V1/\-1<=a/\a<=2000) ⟨rfl,Z,Y⟩ ?_;clear B;rintro i b a V1 J hi ⟨rfl,Z,Y⟩ B;refine GO (λ_=>?_) (λo hn=>?_);rotate_left
 .obtain⟨x,O,K,-,A,hp,L,H⟩:=I.pots.get o;have X:=Ai (n:=i*5) hp;refine⟨hp,L,o,X,_,_,_,_,_,H,λ_=>.mk,λ_=>⟨hp,L,o,X,_,_,_,_,_,H,Tri.mono (leftC 65 (by omega) x.x a (I.potsOk x O) Z Y) ?_⟩⟩;rintro _ _ ⟨rfl,r,rfl,D⟩;exact⟨_,rfl,I.pots.succ o,B A _ _ _ ⟨rfl,D⟩⟩
 refine Gx (mk:=.bool) (mc:=.int .i64) b a BJ d.bounds.length (λi a V1=>V=V1/\-1<=a/\a<=2000) ⟨rfl,Z,Y⟩ ?_;clear B;rintro i b a V1 J hi ⟨rfl,Z,Y⟩ B;refine GO (λ_=>.mk) (λo hn=>?_);obtain⟨x,O,K,-,A,hp,L,H⟩:=I.bounds.get o;have X:=Ai (n:=i*5) hp;refine⟨hp,L,o,X,_,_,_,_,_,H,λ_=>.mk,λ_=>⟨hp,L,o,X,_,_,_,_,_,H,Tri.mono (leftC 65 (by omega) x.x a (I.boundsOk x O) Z Y) ?_⟩⟩;rintro _ _ ⟨rfl,r,rfl,D⟩;exact⟨_,rfl,I.bounds.succ o,B A _ _ _ ⟨rfl,D⟩⟩
theorem greatC(o:Ds.Ok V d):Tri xV 21 #[d.v] V (RY V):=by
 refine Tri.mono (ON (R:=RY V) ?_) λ_ _ h=>h;refine Tri.mono (overC o (n:=2000) (by omega) (by omega)) ?_;rintro _ _ ⟨rfl,b,rfl⟩;exact⟨_,rfl,.mk⟩
theorem manyC(hm:Mm.Ok V m):Tri xV 22 #[m.v] V (RY V):=by
 refine Tri.mono (OO (R:=RY V) ?_) λ_ _ h=>h;refine⟨λ_=>.mk,λ_=>⟨λ_=>.mk,λ_=>AG (mk:=.bool) (b0:=false) m.nodes.length (λi V1=>V=V1) rfl ?_⟩⟩;rintro i b V1 J hi rfl Y;refine⟨λo=>?_,λ_=>.mk⟩;obtain⟨x,O,I,-,Z,hp,A,H⟩:=hm.nodes.get o;exact⟨hp,A,o,Ai hp,_,_,H,λ_=>.mk,λ_=>⟨hm.nodes.succ o,Y Z _ _ rfl⟩⟩
end
section
variable{V:Mem}{d:Ds}{m:Mm}
def gB(d:Ds)(m:Mm):Bool:=A8 d&&F7 d&&BX d m
theorem gB_iff:gB d m=true↔An d m:=by
 unfold gB F7;simp only[zD,decide_eq_true_eq];constructor;.rintro⟨⟨h1,-,h2⟩,o⟩;exact⟨h1,chk_zero h2,o⟩
 .rintro h;exact⟨⟨h.valid,h.valid,by rw[h.chk];rfl⟩,h.mem⟩
theorem c117(o:Ds.Ok V d)(hm:Mm.Ok V m):PP 117 [d.v,m.v] V (uI (if gB d m=true then 0 else 1)):=by
 refine x117 ?_;refine(JL o).call ⟨_,rfl,λh1=>(Nq o).call ⟨_,rfl,λh2=>(Ly o hm).call ⟨_,rfl,λH=>?_,λH=>?_⟩,λh2=>?_⟩,λh1=>?_⟩;.rw[if_pos (by unfold gB;rw[show A8 d=true from h1,show F7 d=true from h2,show BX d m=true from H];rfl)];exact⟨rfl,rfl⟩
 .rw[if_neg (by unfold gB;rw[(vU _).mp H,vT];decide)];exact⟨rfl,rfl⟩
 .rw[if_neg (by unfold gB;rw[(vU _).mp h2,vT,xj];decide)];exact⟨rfl,rfl⟩
 .rw[if_neg (by unfold gB;rw[(vU _).mp h1,xj,xj];decide)];exact⟨rfl,rfl⟩
theorem NQ(G:An d m)(A:Ds.Ok V d)(hm:Mm.Ok V m){x:Int}(R:0<=x/\x<=(m.nodes.length:Int)):PP 68 [d.v,m.v,uI x] V (uS (Dg d m x)):=by
 refine Pv ?_;refine⟨λh0=>?_,λh0=>?_⟩;.unfold Dg;rw[if_pos h0];exact⟨rfl,rfl⟩
 have h0:¬x=0:=h0;obtain⟨q,j,n,tt,rfl,b1,b5,b6,b7⟩:=node_at G (x:=x) (by omega) R.2;rw[show((q:Int)+1-1)=(q:Int)by omega];have X:=hm.nodes.n_eq;obtain⟨y,B,I,-,D,J,Y,o⟩:=hm.nodes.get (i:=q) (by omega);rw[b1]at I;cases I;have K:=A.types.n_eq;have T:=(yg.1 b6).1;obtain⟨z,U,L,-,hl3,Z,O,H⟩:=A.types.get (i:=j) (by omega);rw[b6]at L;cases L;have hI:IR ((q:Int)):=⟨by omega,by have:=(hm.nodes.succ (i:=q) (by omega)).2;omega⟩;refine⟨hI,J,Y,by omega,Ai J,_,_,o,?_⟩;rw[b5];refine⟨Z,O,by omega,Ai Z,_,_,H,?_,rfl⟩;rw[b7]
theorem c282(Z:Ds.Ok V d){s:KB}:PP 282 [d.v,uS s] V (uI (mIdx d s)):=by
 refine x282 ?_;refine AG (mk:=.int .i64) (b0:=0) d.measures.length (λi V1=>V=V1/\AQ (λy:Ms=>!decide (y.name=s)) d.measures i) ⟨rfl,AQ.zero _ _⟩ ?_;rintro i b V1 J hi ⟨rfl,ha⟩ I;refine⟨λo=>?_,λY=>?_⟩
 .obtain⟨x,L,A,-,O,hp,R,H⟩:=Z.measures.get o;refine⟨hp,R,o,Ai hp,_,_,_,_,_,_,_,H,λh=>?_,λh=>⟨Z.measures.succ o,I O _ _ ⟨rfl,E9 ha A (decide_eq_false h)⟩⟩⟩;unfold mIdx;rw[E7 ha A (decide_eq_true h)];exact⟨rfl,rfl⟩
 .unfold mIdx;rw[E8 ha (Z.measures.done Y).2];exact⟨rfl,rfl⟩
theorem LX(Z:Ds.Ok V d){s:KB}:PP 65 [d.v,uS s] V (uI (BP d s)):=by
 refine Ps ?_;refine AG (mk:=.int .i64) (b0:=0) d.invs.length (λi V1=>V=V1/\AQ (λy:Iv=>!decide (y.name=s)) d.invs i) ⟨rfl,AQ.zero _ _⟩ ?_;rintro i b V1 J hi ⟨rfl,ha⟩ I;refine⟨λo=>?_,λY=>?_⟩
 .obtain⟨x,L,A,-,O,hp,R,H⟩:=Z.invs.get o;refine⟨hp,R,o,Ai hp,_,_,_,_,_,_,H,λh=>?_,λh=>⟨Z.invs.succ o,I O _ _ ⟨rfl,E9 ha A (decide_eq_false h)⟩⟩⟩;unfold BP;rw[E7 ha A (decide_eq_true h)];exact⟨rfl,rfl⟩
 .unfold BP;rw[E8 ha (Z.invs.done Y).2];exact⟨rfl,rfl⟩
end
structure A5 where
 k:Int
 x:Int
 v:Int
 kn:Bool
def A5.row(p:A5):XV:=[uI p.k,uI p.x,uI p.v,.bool p.kn]
def rrow(d:Ds)(m:Mm)(s:Sl)(f:Int):XV:=[Go.Sx.vS d.name,d.ts.v,d.gs.v,d.ps.v,d.ms.v,d.is.v,d.qs.v,d.bs.v,m.gs.v,m.ns.v,s.v,uI f]
theorem app297:AppP 297 389 4 A5.row:=appG Tryz.underlying297 (by kernel_rfl) (by kernel_rfl) (by kernel_rfl) (by kernel_rfl) (by kernel_rfl) (by decide) (by intro _;rfl) λx u hu=>by simp only[A5.row,zJ,xT,or_false]at hu;rcases hu with rfl|rfl|rfl|rfl<;>rfl
structure RM (V0:Mem)(d:Ds)(m:Mm)(p:Nat)(V:Mem)(sn:List A5)(f:Int)(s:Sl):Prop where
 at_:V p=some (.cells (rrow d m s f).toArray 299 (0,0))
 own:Sx.Own V0 V 389 4 s (sn.flatMap A5.row)
structure Dq (V0:Mem)(d:Ds)(m:Mm)(p:Nat):Prop where
 good:An d m
 ds:Ds.Ok V0 d
 mm:Mm.Ok V0 m
 p0:V0 p=none
def Dw(V0:Mem)(d:Ds)(m:Mm)(p:Nat)(sn:List A5)(s:Sl)(rs:Rs)(V:Mem):RP:=λe V'=>∃v,e=Id v/\((∃a,rs=.ok a/\v=a/\V=V')∨∃c,rs=.bad c/\c≠0/\RM V0 d m p V' sn c s)
section
variable{V0 V:Mem}{d:Ds}{m:Mm}{p:Nat}{sn:List A5}{f:Int}{s:Sl}
theorem RM.cell(h:RM V0 d m p V sn f s)(i n:Nat)(hi:i+n<=12):V.rowp (sa p) i n=some (((rrow d m s f).drop i).take n):=Aj h.at_ i n hi
theorem RM.notB(h:RM V0 d m p V sn f s):¬A4 s p:=h.own.apart λo hc=>by rw[h.at_]at hc;cases hc
theorem c325(S:Dq V0 d m p)(h:RM V0 d m p V sn 0 s){c:Int}:Tri xV 325 #[pv p,uI c] V λe V'=>e=Id 0/\RM V0 d m p V' sn c s:=by
 refine x325 ?_;refine⟨nn,nn,_,h.cell 11 1 (by decide),λ_=>⟨nn,nn,Am.at2 (off:=11) h.at_ (by simp[rrow]) ⟨rfl,?_,h.own.put h.notB S.p0 _⟩⟩,λk=>absurd rfl k⟩;rw[Mem.set_same];rfl
theorem Dw.ok{a:Int}:Dw V0 d m p sn s (.ok a) V (Id a) V:=⟨a,rfl,.inl ⟨a,rfl,rfl,rfl⟩⟩
theorem failP(S:Dq V0 d m p)(h:RM V0 d m p V sn 0 s){c:Int}(hc:c≠0){rs:Rs}(hr:rs=.bad c):Tri xV 325 #[pv p,uI c] V λe V1=>∃o,e=Id o/\Dw V0 d m p sn s rs V (Id o) V1:=by
 refine Tri.mono (c325 S h) ?_;rintro _ V1 ⟨rfl,h1⟩;exact⟨0,rfl,0,rfl,.inr ⟨c,hr,hc,h1⟩⟩
theorem c283(S:Dq V0 d m p)(h:RM V0 d m p V sn 0 s){n:Int}:Tri xV 283 #[pv p,uI n] V (Dw V0 d m p sn s (AR n) V):=by
 refine Tri.mono (x283 (R:=Dw V0 d m p sn s (AR n) V) ?_) λ_ _ h=>h;refine⟨λh1=>failP S h (by decide) ?_,λh1=>⟨λh2=>failP S h (by decide) ?_,λh2=>?_⟩⟩
 .have h1:n< -1099511627776:=h1;unfold AR;rw[if_neg (by omega)]
 .have h2:1099511627776<n:=h2;unfold AR;rw[if_neg (by omega)]
 .have h1:¬n< -1099511627776:=h1;have h2:¬1099511627776<n:=h2;have:AR n=.ok n:=by unfold AR;rw[if_pos (by omega)]
  rw[this];exact .ok
theorem NR{a b:Int}(hb:0<b):(1099511627776:Int).tdiv b<a↔1099511627776<a*b:=by
 rw[vh (by decide)];exact Int.ediv_lt_iff_lt_mul hb
theorem c328{b:Bool}:PP 328 [.bool b] V (uI (De b)):=by
 refine x328 ?_;refine⟨λh=>?_,λh=>?_⟩;.rw[show b=true from h];exact⟨rfl,rfl⟩
 .rw[show b=false by simpa using h];exact⟨rfl,rfl⟩
theorem wrap_div{b:Int}(hb:0<b):xW .i64 ((1099511627776:Int).tdiv b)=(1099511627776:Int).tdiv b:=by
 have h1:=H4 (a:=1099511627776) (b:=b) (by omega);exact EH ⟨by simp[we,zt,zr];omega,by simp[wc,zt,zr];omega⟩
theorem c327(S:Dq V0 d m p)(h:RM V0 d m p V sn 0 s){a b:Int}(ha:-1099511627776<=a/\a<=1099511627776)(hb:-1099511627776<=b/\b<=1099511627776):Tri xV 327 #[pv p,uI a,uI b] V (Dw V0 d m p sn s (AR (a*b)) V):=by
 refine Tri.mono (x327 (R:=Dw V0 d m p sn s (AR (a*b)) V) ?_) λ_ _ h=>h;have zero:b=0->IR (a*b)/\Dw V0 d m p sn s (AR (a*b)) V (Id (a*b)) V:=λe=>by
  have:AR (a*b)=.ok (a*b):=by rw[e];unfold AR;rw[if_pos (by omega)]
  rw[this];exact⟨by rw[e];exact⟨by omega,by omega⟩,.ok⟩
 have key:∀x y:Int,0<=x->0<y->x*y=((a*b).natAbs:Int)->(¬y=0/\Br ((xW .i64 ((1099511627776:Int).tdiv y))<x)
   (Tri xV 325 #[pv p,uI 5] V λe V1=>∃Z,e=Id Z/\Dw V0 d m p sn s (AR (a*b)) V (Id Z) V1)
   (IR (a*b)/\Dw V0 d m p sn s (AR (a*b)) V (Id (a*b)) V)):=λx y O J Y=>by
  refine⟨by omega,?_⟩;rw[wrap_div J];refine⟨λh1=>failP S h (by decide) ?_,λh1=>?_⟩
  .have h1:=(NR J).1 h1;unfold AR;rw[if_neg (by omega)]
  .have h1:¬1099511627776<x*y:=λk=>h1 ((NR J).2 k);have:AR (a*b)=.ok (a*b):=by unfold AR;rw[if_pos (by omega)]
   rw[this];exact⟨⟨by omega,by omega⟩,.ok⟩
 have H:∀x y:Int,x=a.natAbs->y=b.natAbs->x*y=((a*b).natAbs:Int):=λx y h1 h2=>by rw[h1,h2,<-Int.natCast_mul,mul_abs]
 refine⟨λh1=>⟨⟨by omega,by omega⟩,λh2=>⟨⟨by omega,by omega⟩,λo=>?_,λo=>?_⟩,λh2=>⟨λo=>zero o,λo=>?_⟩⟩,λh1=>⟨λh2=>⟨⟨by omega,by omega⟩,λo=>?_,λo=>?_⟩,λh2=>⟨λo=>zero o,λo=>?_⟩⟩⟩
 .have h2:b<0:=h2;have o:0-b=0:=o;omega
 .have h1:a<0:=h1;have h2:b<0:=h2;exact key (0-a) (0-b) (by omega) (by omega) (H _ _ (by omega) (by omega))
 .have h1:a<0:=h1;have h2:¬b<0:=h2;have o:¬b=0:=o;exact key (0-a) b (by omega) (by omega) (H _ _ (by omega) (by omega))
 .have h2:b<0:=h2;have o:0-b=0:=o;omega
 .have h1:¬a<0:=h1;have h2:b<0:=h2;exact key a (0-b) (by omega) (by omega) (H _ _ (by omega) (by omega))
 .have h1:¬a<0:=h1;have h2:¬b<0:=h2;have o:¬b=0:=o;exact key a b (by omega) (by omega) (H _ _ (by omega) (by omega))
theorem pureV{f:FuncId}{args:XQ}{rs:Rs}(H:Tri xV f args V (Dw V0 d m p sn s rs V)){o:Rs}(e:rs=o):Tri xV f args V λe V1=>∃v,e=Id v/\Dw V0 d m p sn s o V (Id v) V1:=
 Tri.mono H λJ V1 ⟨v,he,h⟩=>⟨v,he,v,rfl,by rw[<-e];exact h⟩
theorem c285(S:Dq V0 d m p)(h:RM V0 d m p V sn 0 s){op a b:Int}(ha:-1099511627776<=a/\a<=1099511627776)(hb:-1099511627776<=b/\b<=1099511627776):Tri xV 285 #[pv p,uI op,uI a,uI b] V (Dw V0 d m p sn s (AC op a b) V):=by
 refine Tri.mono (x285 (R:=Dw V0 d m p sn s (AC op a b) V) ?_) λ_ _ h=>h;have tr:∀{A:Bool}{r:Rs},r=.ok (De A)->Tri xV 328 #[.bool A] V λe V'=>∃v,e=Id v/\Dw V0 d m p sn s r V (Id v) V':=λh=>c328.call ⟨_,rfl,by rw[h];exact .ok⟩;have ne:∀{x y:Int},¬x=y->(x=y)=False:=λh=>by simp[h]
 refine⟨λh1=>⟨⟨by omega,by omega⟩,pureV (c283 S h) ?_⟩,λh1=>⟨λh2=>⟨⟨by omega,by omega⟩,pureV (c283 S h) ?_⟩,λh2=>⟨λZ=>pureV (c327 S h ha hb) ?_,λZ=>⟨λY=>tr ?_,λY=>⟨λO=>tr ?_,λO=>⟨λh6=>tr ?_,λh6=>⟨λh7=>tr ?_,λh7=>⟨λh8=>⟨λH=>?_,λH=>?_⟩,λh8=>⟨λH=>⟨λo=>?_,λo=>?_⟩,λH=>⟨λo=>failP S h (by decide) ?_,λo=>⟨λJ=>⟨o,?_⟩,λJ=>⟨o,?_⟩⟩⟩⟩⟩⟩⟩⟩⟩⟩⟩⟩;.rw[show op=9 from h1];rfl
 .rw[show op=10 from h2];rfl
 .rw[show op=11 from Z];rfl
 .rw[show op=14 from Y];rfl
 .rw[show op=15 from O];rfl
 .rw[show op=16 from h6];rfl
 .rw[show op=17 from h7];rfl
 .have:AC op a b=.ok b:=by rw[show op=22 from h8];show Rs.ok (if a<b then b else a)=_;rw[if_pos H]
  rw[this];exact .ok
 .have:AC op a b=.ok a:=by rw[show op=22 from h8];show Rs.ok (if a<b then b else a)=_;rw[if_neg H]
  rw[this];exact .ok
 .have:AC op a b=.ok b:=by rw[show op=23 from H];show Rs.ok (if b<a then b else a)=_;rw[if_pos o]
  rw[this];exact .ok
 .have:AC op a b=.ok a:=by rw[show op=23 from H];show Rs.ok (if b<a then b else a)=_;rw[if_neg o]
  rw[this];exact .ok
 .unfold AC;rw[if_neg (show ¬op=9 from h1),if_neg (show ¬op=10 from h2),if_neg (show ¬op=11 from Z),if_neg (show ¬op=22 from h8),if_neg (show ¬op=23 from H),if_neg (show ¬op=14 from Y),if_neg (show ¬op=15 from O),if_neg (show ¬op=16 from h6),if_neg (show ¬op=17 from h7),if_pos (show b=0 from o)]
 .have:AC op a b=.ok (a.tdiv b):=by
   unfold AC;rw[if_neg (show ¬op=9 from h1),if_neg (show ¬op=10 from h2),if_neg (show ¬op=11 from Z),if_neg (show ¬op=22 from h8),if_neg (show ¬op=23 from H),if_neg (show ¬op=14 from Y),if_neg (show ¬op=15 from O),if_neg (show ¬op=16 from h6),if_neg (show ¬op=17 from h7),if_neg (show ¬b=0 from o),if_pos (show op=12 from J)]
  have I:=H4 (b:=b) ha;have hw:xW .i64 (a.tdiv b)=a.tdiv b:=EH ⟨by simp[we,zt,zr];omega,by simp[wc,zt,zr];omega⟩;rw[this,hw];exact .ok
 .have:AC op a b=.ok (a.tmod b):=by
   unfold AC;rw[if_neg (show ¬op=9 from h1),if_neg (show ¬op=10 from h2),if_neg (show ¬op=11 from Z),if_neg (show ¬op=22 from h8),if_neg (show ¬op=23 from H),if_neg (show ¬op=14 from Y),if_neg (show ¬op=15 from O),if_neg (show ¬op=16 from h6),if_neg (show ¬op=17 from h7),if_neg (show ¬b=0 from o),if_neg (show ¬op=12 from J)]
  rw[this];exact .ok
end
section
variable{V0 V:Mem}{d:Ds}{m:Mm}{p:Nat}{sn:List A5}{f:Int}{s:Sl}
theorem c278(S:Dq V0 d m p)(h:RM V0 d m p V sn f s){T nm t:KB}{x:Int}(K:This d m T x)(ht:Bn (AM d T).vars nm=t)(hne:t≠sE):PP 278 [pv p,uS nm,uI x] V (uI (varV d m x nm)):=by
 refine x278 ?_;have o:=(S.ds.sub h.own.sub).globals;have Y:=(S.mm.sub h.own.sub).globals;refine⟨λh1=>?_,λh1=>?_⟩;.unfold varV;rw[if_pos (show nm=C3 from h1)];exact⟨rfl,rfl⟩
 have h1:¬nm=C3:=h1;rcases var_ok S.good K ht hne with⟨g,-⟩|⟨-,i,g,v,g1,g2,g3,g4,g5,-⟩;.exact absurd g h1
 refine AG (mk:=.int .i64) (b0:=0) d.globals.length (λj V1=>V=V1/\AQ (λy:Fld=>!decide (y.name=nm)) d.globals j) ⟨rfl,AQ.zero _ _⟩ ?_;rintro j b V1 J hj ⟨rfl,ha⟩ U;refine⟨nn,nn,AJ,d.gs,h.cell 2 1 (by decide),λH=>?_,λA=>?_⟩
 .obtain⟨y,hym,B,-,I,hp,hz,O⟩:=o.get H;refine⟨nn,nn,AJ,d.gs,h.cell 2 1 (by decide),hp,hz,H,Ai hp,_,_,O,λL=>?_,λL=>⟨o.succ H,U I _ _ ⟨rfl,E9 ha B (decide_eq_false L)⟩⟩⟩;have e:Bu d.globals nm=(j:Int):=by unfold Bu;exact E7 ha B (decide_eq_true L)
  have ij:i=j:=by omega
  subst ij;have D:=Y.n_eq;have hil:=(yg.1 g3).1;obtain⟨u,hum,hu,-,hul,R,X,Z⟩:=Y.get (i:=i) (by omega);rw[g3]at hu;cases hu;refine⟨nn,nn,AJ,m.gs,h.cell 8 1 (by decide),R,X,by omega,_,Z,?_⟩;rw[g5];exact⟨rfl,rfl⟩
 .have hd:=(o.done A).2;have e:Bu d.globals nm=-1:=by unfold Bu;exact E8 ha hd
  omega
theorem c284{a:Int}(ha:a<=1099511627776):PP 284 [uI a] V (uI (Bv a)):=by
 refine x284 ?_;have small:∀v:Int,v<=1->Bv v=0:=λv hv=>by
  unfold Bv;have:v.toNat=0∨v.toNat=1:=by omega
  rcases this with h|h<;>rw[h]<;>decide
 have step:∀v:Int,1<v->Bv v=Bv (v.tdiv 2)+1:=λv hv=>by
  unfold Bv;have e:(v.tdiv 2).toNat=v.toNat/2:=by rw[vh (by omega)];omega
  rw[e,Nat.log2_def,if_pos (by omega)];simp
 have H:Bv a<=64:=by
  unfold Bv;by_cases h0:a.toNat=0;.rw[h0];decide
  .have:=(Nat.log2_lt h0).2 (show a.toNat<2^64 by omega);omega
 have pos:∀v:Int,0<=Bv v:=λv=>by unfold Bv;omega
 refine⟨λn xs V1=>∃v c:Int,xs=[uI v,uI c]/\n=v.toNat/\V=V1/\v<=a/\0<=c/\c+Bv v=Bv a,a.toNat,⟨a,0,rfl,rfl,rfl,vg _,vg _,by omega⟩,?_⟩;rintro n V1 v c ⟨A,I,o,rfl,rfl,Z,hc,hl⟩ J Y;simp only[List.cons.injEq,Value.int.injEq,true_and,and_true]at o;obtain⟨rfl,rfl⟩:=o;refine⟨λhv=>?_,λhv=>?_⟩
 .have hv:1<v:=hv;have hw:xW .i64 (v.tdiv 2)=v.tdiv 2:=by
   rw[vh (by omega)];exact EH ⟨by simp[we,zt,zr];omega,by simp[wc,zt,zr];omega⟩
  have L:=step v hv;have hp:=pos (v.tdiv 2);have O:v.tdiv 2<v/\0<=v.tdiv 2:=by rw[vh (by omega)];omega
  refine⟨by decide,⟨by omega,by omega⟩,?_⟩;rw[hw];exact Y (v.tdiv 2).toNat _ _ (by omega) ⟨v.tdiv 2,c+1,rfl,rfl,rfl,by omega,by omega,by omega⟩
 .have hv:¬1<v:=hv;have:=small v (by omega);rw[show c=Bv a by omega];exact⟨rfl,rfl⟩
end
def D4(sn:List A5):Int->Int->Prop:=λa b=>∃pr∈sn,pr.k=a/\pr.x=b/\pr.kn=false
def Qz(d:Ds)(m:Mm)(sn:List A5):Prop:=∀pr∈sn,pr.kn=true->∃n,Al d m n pr.k pr.x=.ok pr.v
def AllK(ext:List A5):Prop:=∀pr∈ext,pr.kn=true
def CM(d:Ds)(m:Mm)(sn:List A5):Nat:=((Ga d m).filter λk=>!sn.any λpr=>decide (pr.k=k.1/\pr.x=k.2)).length
structure RK (V0:Mem)(d:Ds)(m:Mm)(p:Nat)(V:Mem)(sn:List A5)(s:Sl):Prop where
 rm:RM V0 d m p V sn 0 s
 kn:Qz d m sn
 cap:sn.length+CM d m sn<=(Ga d m).length
def By(V0:Mem)(d:Ds)(m:Mm)(p:Nat)(sn:List A5)(g:Nat->Rs):RP:=λe V'=>∃v rs,e=Id v/\Out d m (D4 sn) g rs/\
 ((∃a ext s',rs=.ok a/\v=a/\AllK ext/\RK V0 d m p V' (sn++ext) s')∨∃c o s',rs=.bad c/\c≠0/\RM V0 d m p V' o c s'/\sn.length<=o.length)
theorem LY{α:Type}(f:α->α):∀(A:List α)(b:α)(C:List α),(A++b::C).modify A.length f=A++f b::C
 |[],b,C=>rfl
 |a::A,b,C=>by
  show(a::(A++b::C)).modify (A.length+1) f=_;rw[vf,LY f A b C];rfl
theorem set_v:∀(L:List A5)(j:Nat)(v:Int),(L.flatMap A5.row).set (j*4+2) (uI v)=(L.modify j λq=>{q with v:=v}).flatMap A5.row
 |[],j,v=>by cases j<;>rfl
 |a::L,0,v=>by simp[A5.row]
 |a::L,j+1,v=>by
  rw[xG,vf,xG,<-set_v L j v,show(j+1)*4+2=(A5.row a).length+(j*4+2)by simp[A5.row];omega,ve _ _ (by omega),vd]
theorem set_kn:∀(L:List A5)(j:Nat),(L.flatMap A5.row).set (j*4+3) (.bool true)=(L.modify j λq=>{q with kn:=true}).flatMap A5.row
 |[],j=>by cases j<;>rfl
 |a::L,0=>by simp[A5.row]
 |a::L,j+1=>by
  rw[xG,vf,xG,<-set_kn L j,show(j+1)*4+3=(A5.row a).length+(j*4+3)by simp[A5.row];omega,ve _ _ (by omega),vd]
theorem H9{α:Type}:∀(l:List α)(i:Nat)(v:α),i<l.length->l.take i++[v]++l.drop (i+1)=l.set i v
 |[],i,v,h=>by simp at h
 |a::l,0,v,_=>by simp
 |a::l,i+1,v,h=>by
  have:=H9 l i v (by simpa using h);simp only[List.take_succ_cons,List.drop_succ_cons,List.set_cons_succ,List.cons_append,<-this]
section
variable{V0 V V1:Mem}{d:Ds}{m:Mm}{p:Nat}{sn:List A5}{f:Int}{s:Sl}
theorem Own.store{e:TypeId}{sz:Nat}{vs:XV}(h:Sx.Own V0 V e sz s vs){i:Nat}(hi:i<vs.length){v:Value}{q:Mem->Prop}(Y:∀V',Sx.Own V0 V' e sz s (vs.set i v)->(∀c,¬A4 s c->V' c=V c)->q V'):Am (Aa s.p i) 0 [v] V q:=by
 rcases h.cases0 with⟨h1,h2,H⟩|⟨hc,g,cur,h1,h2,H,Z,O,h6,h7⟩;.rw[H]at hi;simp at hi
 have o:=h.len;have A:s.n*sz<=s.c*sz:=xK _ Z;rw[h1];refine Am.at2 (off:=i) H (by simp;omega) (Y _ ⟨h.sub.set h2 _,by simpa using o,.inr ⟨g,_,h1,h2,Mem.set_same _ _ _,Z,O,?_,?_⟩⟩ λc J=>?_)
 .have:(cur.toList.take i++[v]++cur.toList.drop (i+[v].length))=cur.toList.set i v:=H9 _ _ _ (by simp;omega);rw[this];simp[h6]
 .have:(cur.toList.take i++[v]++cur.toList.drop (i+[v].length))=cur.toList.set i v:=H9 _ _ _ (by simp;omega);rw[this];show(cur.toList.set i v).take (s.n*sz)=vs.set i v;rw[List.take_set,h7]
 .rw[Mem.set_ne];rintro rfl;exact J ⟨hc,h1⟩
theorem bz_ext{ext:List A5}(h:AllK ext)(a b:Int)(hb:D4 (sn++ext) a b):D4 sn a b:=by
 obtain⟨pr,hm,h1,h2,o⟩:=hb;rcases vc.1 hm with hm|hm;.exact⟨pr,hm,h1,h2,o⟩
 .rw[h pr hm]at o;cases o
theorem unR_le{a b:List A5}(h:∀pr∈a,∃q∈b,q.k=pr.k/\q.x=pr.x):CM d m b<=CM d m a:=by
 unfold CM;refine IZ λk _ hk=>?_;simp only[zo,xf,decide_eq_true_eq]at hk⊢;rintro pr o ⟨h1,h2⟩;obtain⟨q,H,J,Z⟩:=h pr o;exact hk q H ⟨J.trans h1,Z.trans h2⟩
theorem unR_lt{q:A5}(H:(q.k,q.x)∈Ga d m)(h:∀pr∈sn,¬(pr.k=q.k/\pr.x=q.x)):CM d m (sn++[q])<CM d m sn:=by
 unfold CM;refine Kf (λk _ hk=>?_) (q.k,q.x) H ?_ (by simp)
 .simp only[zo,xf,decide_eq_true_eq]at hk⊢;exact λpr o=>hk pr (vu _ o)
 .simp only[zo,xf,decide_eq_true_eq];exact h
theorem unR_ext{ext:List A5}:CM d m (sn++ext)<=CM d m sn:=unR_le λpr h=>⟨pr,vu _ h,rfl,rfl⟩
theorem By.ofPure{rs:Rs}{g:Nat->Rs}(K:RK V0 d m p V sn s)(o:Out d m (D4 sn) g rs){e:Ending}{V':Mem}(h:Dw V0 d m p sn s rs V e V'):By V0 d m p sn g e V':=by
 obtain⟨v,he,h⟩:=h;refine⟨v,rs,he,o,?_⟩;rcases h with⟨a,rfl,h1,rfl⟩|⟨c,rfl,h1,h2⟩;.exact .inl ⟨a,[],s,rfl,h1,(λ_ h=>by simp at h),by rw[vn];exact K⟩
 .exact .inr ⟨c,sn,s,rfl,h1,h2,yu _⟩
theorem By.seq{g:Nat->Rs}{h:Nat->Int->Rs}{G:Nat->Rs}{a:Int}{ext:List A5}(ho:Out d m (D4 sn) g (.ok a))(I:AllK ext)(L:∀n,G n=(g n).bind (h n))(R:Mono g)(X:Mono λn=>h n a){r:Ending}{V':Mem}(H:By V0 d m p (sn++ext) (λn=>h n a) r V'):By V0 d m p sn G r V':=by
 obtain⟨v,rs,h1,h2,B⟩:=H;refine⟨v,rs,h1,(Out.bindOk R X ho (h2.imp (bz_ext I))).congr λn=>(L n).symm,?_⟩;rcases B with⟨b,J,s',Z,Y,O,A⟩|⟨c,sn',s',Z,Y,O,A⟩
 .refine .inl ⟨b,ext++J,s',Z,Y,λpr o=>?_,by rw[<-zM];exact A⟩;rcases vc.1 o with o|o;.exact I pr o
  .exact O pr o
 .exact .inr ⟨c,sn',s',Z,Y,O,by rw[zK]at A;omega⟩
variable(d m p)in
def ExprR(N:Nat):Prop:=∀V0,Dq V0 d m p->∀(e:E)(T t:KB)(x:Int) V sn s,VE e->E.Ok V0 e->Ao d (AM d T) e=(t,0)->This d m T x->RK V0 d m p V sn s->CM d m sn<=N->
 Tri xV 214 #[pv p,e.v,uI x] V (By V0 d m p sn λn=>Au d m (Al d m n) x e)
variable(d m p)in
def MeasR(N:Nat):Prop:=∀V0,Dq V0 d m p->∀(i:Nat)(ms:Ms)(x:Int) V sn s,d.measures[i]?=some ms->AX d m ms.ty x->RK V0 d m p V sn s->CM d m sn<=N->
 Tri xV 281 #[pv p,uI i,uI x] V (By V0 d m p sn λn=>Al d m n i x)
theorem pairs_len(G:An d m):(Ga d m).length<=60000:=by
 have h1:d.measures.length<=12:=by
  have:=G.valid;unfold A8 at this;simp only[zD]at this;obtain⟨⟨⟨⟨_,o⟩,-⟩,-⟩,-⟩:=this;unfold F5 at o;have:=of_decide_eq_true o;omega
 have h2:=(BR G.mem).2.1;have key:∀l:XA,(l.flatMap λ(i:Nat)=>(zC (m.nodes.length+1)).map λ(x:Nat)=>((i:Int),(x:Int))).length=l.length*(m.nodes.length+1):=λl=>by
  induction l with
  |nil=>simp
  |cons a l H=>rw[xG,zK,H,vp,vb,zg,xH];omega
 unfold Ga;rw[key,vb];have:d.measures.length*(m.nodes.length+1)<=12*4097:=vA h1 (by omega);omega
theorem Own.rowsP(h:Sx.Own V0 V 389 4 s (sn.flatMap A5.row)):Ae V s 4 (sn.map A5.row):=h.rows (λ_=>rfl) (by decide)
theorem measRef(N:Nat)(ih:∀N',N'<N->ExprR d m p N'):MeasR d m p N:=by
  intro V0 S i ms x V sn s B hx K hN;have h:=K.rm;refine Tri.mono (x281 (R:=By V0 d m p sn λn=>Al d m n i x) ?_) λ_ _ h=>h;have hd:=S.ds.sub h.own.sub;have hil:=(yg.1 B).1;have hn:=hd.measures.n_eq;have U:=xw B;obtain⟨y,-,hy,-,hl,hp,hz,hrow⟩:=hd.measures.get (i:=i) (by omega);rw[B]at hy;cases hy;refine⟨λh0=>⟨nn,nn,AJ,d.ms,h.cell 4 1 (by decide),hp,hz,by omega,Ai hp,_,_,_,_,_,_,_,hrow,?_⟩,λh0=>?_⟩
  · refine By.ofPure K (show Out d m (D4 sn) _ (Rs.ok ms.nil)from⟨0,?_⟩) .ok;show Al d m 0 i x=.ok ms.nil;unfold Al nilM;rw[if_pos h0,wH,B];rfl
  have h0:¬x=0:=h0;have A:=Own.rowsP h.own;refine AG (mk:=.int .i64) (b0:=0) sn.length (λj V1=>V=V1/\∀j' pr,j'<j->sn[j']?=some pr->¬(pr.k=(i:Int)/\pr.x=x)) ⟨rfl,λ_ _ h=>absurd h (Nat.not_lt_zero _)⟩ ?_;rintro j b V1 J hj ⟨rfl,hno⟩ hJ;refine⟨nn,nn,s,h.cell 10 1 (by decide),λD=>?_,λhge=>?_⟩
  · obtain⟨pr,hpm,o,-,hjl,Z,I,Y⟩:=A.get D;have skip:¬(pr.k=(i:Int)/\pr.x=x)->(IR ((j:Int)+1)/\J [uI b,uI ((j:Int)+1)] V):=fun hne=>⟨A.succ D,hJ hjl _ _ ⟨rfl,fun j' q hj' hq=>by
      rcases Nat.lt_succ_iff_lt_or_eq.1 hj' with h'|rfl;· exact hno j' q h' hq
      · rw[o]at hq;cases hq;exact hne⟩⟩
    have hq:=Ai (n:=j*4) Z;refine⟨nn,nn,s,h.cell 10 1 (by decide),Z,I,D,hq,_,_,_,_,Y,λhk=>⟨nn,nn,s,h.cell 10 1 (by decide),Z,I,D,hq,_,_,_,_,Y,λH=>⟨nn,nn,s,h.cell 10 1 (by decide),Z,I,D,hq,_,_,_,_,Y,λhkn=>⟨nn,nn,s,h.cell 10 1 (by decide),Z,I,D,hq,_,_,_,_,Y,?_⟩,λhkn=>?_⟩,λH=>skip λk=>H k.2⟩,λhk=>skip λk=>hk k.1⟩
    · have hk:pr.k=(i:Int):=hk;have H:pr.x=x:=H;obtain⟨n,hn⟩:=K.kn pr hpm hkn;rw[hk,H]at hn;exact By.ofPure K (show Out d m (D4 sn) _ (Rs.ok pr.v)from⟨n,hn⟩) .ok
    · have hk:pr.k=(i:Int):=hk;have H:pr.x=x:=H;refine Tri.mono (failP S h (c:=16) (by decide) (rs:=.bad 16) rfl) ?_;rintro e V2 ⟨v2,rfl,hpu⟩;exact⟨v2,rfl,By.ofPure K (show Out d m (D4 sn) (λn=>Al d m n i x) (Rs.bad 16)from .inr ⟨rfl,.inr ⟨i,x,⟨pr,hpm,hk,H,(vU _).mp hkn⟩,λ_ h=>h⟩⟩) hpu⟩
  · have hdone:=(A.done hge).2;have hnone:∀pr∈sn,¬(pr.k=(i:Int)/\pr.x=x):=fun pr o=>by
      obtain⟨j',hj',rfl⟩:=List.mem_iff_getElem.1 o;exact hno j' _ (by omega) (yf hj')
    obtain⟨c1,c2⟩:=(IV S.good.chk).1 ms U;have hname:=F9 S.good.valid c1;have H:AW d m ms.ty x=true:=by
      unfold AX at hx;rw[if_neg (D1 hname kwNil)]at hx;exact hx
    obtain⟨r1,r2,-⟩:=LB hname H h0;obtain⟨X,O⟩:∃X:A5,X=⟨i,x,0,false⟩:=⟨_,rfl⟩;have hinp:(X.k,X.x)∈Ga d m:=by
      obtain⟨q,rfl⟩:∃q:Nat,x=(q:Int):=⟨x.toNat,by omega⟩;rw[O];exact mem_pairs hil (by omega)
    have hult:CM d m (sn++[X])<CM d m sn:=unR_lt hinp (by rw[O];exact hnone);have hcap:=K.cap;have hpl:=pairs_len S.good;have hsn:=h.own.n_eq (λ_=>rfl) (by decide);refine⟨nn,nn,s,h.cell 10 1 (by decide),nn,nn,s,h.cell 10 1 (by decide),λtb htb=>?_⟩;have htp:tb≠p:=λe=>by rw[e,h.at_]at htb;cases htb
    refine app297 (s:=s) (u:=⟨some ⟨tb,0,none⟩,1,1⟩) (xs:=sn) (ys:=[X]) rfl rfl ((h.own.but).new htb (.cells #[uI i,uI x,uI 0,.bool false] 389 (0,0))) (Ae.cells (xs:=[X]) (row:=A5.row) Av (by rw[O];rfl) (λ_=>rfl) rfl (by simp)) (by simp;omega) λs2 V2 ho2=>⟨s2,rfl,nn,nn,?_⟩;have hp2:V2 p=some (.cells (rrow d m s 0).toArray 299 (0,0)):=ho2.sub _ _ (Mem.but_at h.at_ h.notB);have ho3:Sx.Own V0 V2 389 4 s2 ((sn++[X]).flatMap A5.row):=ho2.narrow h.own.sub_but;have hnb2:¬A4 s2 p:=ho3.apart λcur hc=>by rw[hp2]at hc;cases hc
    refine Am.at2 (off:=10) hp2 (by simp[rrow]) ?_;obtain⟨V3,hV3⟩:∃V3,V3=V2.set p (.cells (rrow d m s2 0).toArray 299 (0,0)):=⟨_,rfl⟩;have hgoal:V2.set p (.cells ((rrow d m s 0).toArray.toList.take 10++[uL s2]++(rrow d m s 0).toArray.toList.drop (10+[uL s2].length)).toArray 299 (0,0))=V3:=hV3.symm;have K3:RK V0 d m p V3 (sn++[X]) s2:=by
      refine⟨⟨by rw[hV3,Mem.set_same],by rw[hV3];exact ho3.put hnb2 S.p0 _⟩,λpr o hk=>?_,by rw[zK,zL];omega⟩;rcases vc.1 o with o|o;· exact K.kn pr o hk
      · rw[zZ.1 o,O]at hk;cases hk
    show ¬_/\_;rw[hgoal];have hd3:=S.ds.sub K3.rm.own.sub;obtain⟨y,-,hy,-,hl3,hp3,hz3,hrow3⟩:=hd3.measures.get (i:=i) (by omega);rw[B]at hy;cases hy;refine⟨nn,nn,AJ,d.ms,K3.rm.cell 4 1 (by decide),hp3,hz3,by omega,Ai hp3,_,_,_,_,_,_,_,hrow3,Tri.mono (ih (CM d m (sn++[X])) (by omega) V0 S ms.x ms.ty Ak x V3 (sn++[X]) s2 (J9 ((GI S.good.valid).2.2.1 ms U)).2.2 (S.ds.measuresOk ms U).x c2 (.inr ⟨c1,h0,H⟩) K3 (yu _)) ?_⟩;rintro _ V5 ⟨v,rs,rfl,hout,hres⟩;have L:Out d m (D4 sn) (λn=>Al d m n i x) rs:=Out.measure h0 (by rw[wH];exact B) (hout.imp λa b hb=>by
      obtain⟨pr,o,g1,g2,g3⟩:=hb;rcases vc.1 o with o|o;· exact .inl ⟨pr,o,g1,g2,g3⟩
      · rw[zZ.1 o,O]at g1 g2;exact .inr ⟨g1.symm,g2.symm⟩)
    have store:∀{T:List A5}{f5:Int}{s5:Sl},RM V0 d m p V5 T f5 s5->sn.length<T.length->(∀V',RM V0 d m p V' ((T.modify sn.length fun q=>{ q with v:=v }).modify sn.length fun q=>{ q with kn:=true }) f5 s5->By V0 d m p sn (fun n=>Al d m n i x) (Id v) V') ->
        (¬(some (⟨p,0,none⟩:Addr))=none/\¬(some (⟨p,0,none⟩:Addr))=none/\∃v19,V5.rowp (sa p) ((10:Int).toNat*1) 1=some [uL v19]/\
         ¬v19.p=none/\0<=(s.n:Int)/\(s.n:Int)<(v19.n:Int)/\¬(Aa v19.p ((s.n:Int).toNat*4))=none/\Am (Aa (Aa v19.p ((s.n:Int).toNat*4)) 2) 0 [uI v] V5 λV6=>
         ¬(some (⟨p,0,none⟩:Addr))=none/\¬(some (⟨p,0,none⟩:Addr))=none/\∃v20,V6.rowp (sa p) ((10:Int).toNat*1) 1=some [uL v20]/\
         ¬v20.p=none/\0<=(s.n:Int)/\(s.n:Int)<(v20.n:Int)/\¬(Aa v20.p ((s.n:Int).toNat*4))=none/\Am (Aa (Aa v20.p ((s.n:Int).toNat*4)) 3) 0 [uB true] V6 λV7=>
         By V0 d m p sn (λn=>Al d m n i x) (Id v) V7):=λ{T f5 s5} h5 hlt5 fin=>by
      have hr5:=Own.rowsP h5.own;have n5:=hr5.n_eq;obtain⟨z,-,-,-,-,Z,I,-⟩:=hr5.get (i:=s.n) (by omega);have e1:((s.n:Int)).toNat=sn.length:=by omega
      have pa:∀(q:XI)(a b:Nat),Aa (Aa q a) b=Aa q (a+b):=λq a b=>by
        cases q with
        |none=>rfl
        |some q=>show some ((q.add a).add b)=some (q.add (a+b));rw[JI]
      rw[e1];refine⟨nn,nn,s5,h5.cell 10 1 (by decide),Z,I,by omega,Ai Z,?_⟩;rw[pa];refine Own.store h5.own (by rw[IH (row:=A5.row) (sz:=4) (λ_=>rfl)];omega) λV6 ho6 hk6=>?_;rw[set_v]at ho6;have h6:RM V0 d m p V6 (T.modify sn.length λq=>{q with v:=v}) f5 s5:=⟨by rw[hk6 p h5.notB];exact h5.at_,ho6⟩;refine⟨nn,nn,s5,h6.cell 10 1 (by decide),Z,I,by omega,Ai Z,?_⟩;rw[pa];refine Own.store h6.own (by rw[IH (row:=A5.row) (sz:=4) (λ_=>rfl),uC];omega) λV7 ho7 hk7=>?_;rw[set_kn]at ho7;exact fin V7 ⟨by rw[hk7 p h6.notB];exact h6.at_,ho7⟩
    refine⟨v,rfl,?_⟩;rcases hres with⟨a,ext,s5,rfl,rfl,hx5,K5⟩|⟨c,T,s5,rfl,hc,h5,hle5⟩
    · refine store K5.rm (by simp) λV' h'=>⟨v,.ok v,rfl,L,.inl ⟨v,⟨i,x,v,true⟩::ext,s5,rfl,rfl,?_,?_⟩⟩
      · intro pr o;rcases zJ.1 o with rfl|o;· rfl
        · exact hx5 pr o
      · have e1:sn++[X]++ext=sn++X::ext:=by simp
        rw[e1]at h' K5;rw[LY,LY,O]at h';have kc:=K5.cap;refine⟨h',λpr o hk=>?_,?_⟩
        · rcases vc.1 o with o|o;· exact K.kn pr o hk
          · rcases zJ.1 o with rfl|o;· exact L
            · exact K5.kn pr (uE _ (yJ _ o)) hk
        · have hu:CM d m (sn++⟨i,x,v,true⟩::ext)<=CM d m (sn++X::ext):=unR_le fun pr o=>by
            rcases vc.1 o with o|o;· exact⟨pr,vu _ o,rfl,rfl⟩
            · rcases zJ.1 o with rfl|o;· exact⟨⟨i,x,v,true⟩,by simp,by rw[O],by rw[O]⟩
              · exact⟨pr,uE _ (yJ _ o),rfl,rfl⟩
          simp only[zK,zg]at kc⊢;omega
    · rw[zK,zL]at hle5;refine store h5 (by omega) λV' h'=>⟨v,.bad c,rfl,L,.inr ⟨c,_,s5,rfl,hc,h',by simp only[uC];omega⟩⟩
end
end Go.Proofs
namespace Go.Proofs
open Go Go.Sx
structure St where
 g:XZ
 ns:List (Int×XZ)
 tk:Nat
 cm:Nat
 lg:List (Int×Int×Int)
inductive Rx (α:Type) where
 |ok (v:α) (s:St)
 |bad (c:Int) (s:St)
def Rx.bind{α β:Type}:Rx α->(α->St->Rx β)->Rx β
 |.ok v s,f=>f v s
 |.bad c s,_=>.bad c s
def Ah:Sl:=⟨none,0,0⟩
def St.mm(s:St):Mm:=⟨Ah,s.g,Ah,s.ns.map λn=>⟨n.1,Ah,n.2⟩⟩
def St.note(s:St)(a:Int×Int×Int):St:={s with lg:=s.lg++[a]}
def Ge:E:=.mk 0 0 sE Ah []
def BG(d:Ds)(s:KB):Int:=B1 (λt=>decide (t.name=s)) d.procs
def CV:Rs->St->Rx Int
 |.ok v,s=>.ok v s
 |.bad c,s=>.bad c s
def CW:List (St->Rx Int)->XZ->St->Rx (XZ)
 |[],acc,st=>.ok acc st
 |f::fs,acc,st=>(f st).bind λv st=>CW fs (acc++[v]) st
def BC(ks:List (St->Rx Int))(i:Nat):St->Rx Int:=ks.getD i λst=>.bad 0 st
def _root_.Go.Sx.Pr.vars(p:Pr):XX:=p.params++p.locals
def Dr(b:Bool)(op:Int)(st:St):St:=if op=16∨op=17∨((op=14∨op=15)/\b=true)then{st with cm:=st.cm+1}else st
abbrev Cf:=Int->XZ->St->Rx Int
abbrev Rt:=XZ×Option Int
abbrev Sf:=Nat->Pr->XK->XZ->St->Rx Rt
def Eh(F:Nat)(st:St):Rx Unit:=if F<=st.tk then .bad 20 st else .ok () {st with tk:=st.tk+1}
section
variable(d:Ds)
def varX(p:Pr)(vals:XZ)(s:KB)(st:St):Rx Int:=
 if 0<=Bu p.vars s then .ok ((vals[(Bu p.vars s).toNat]?).getD 0) st else .ok ((st.g[(Bu d.globals s).toNat]?).getD 0) (st.note (1,0,Bu d.globals s))
def fldX(a:Int)(s:KB)(st:St):Rx Int:=
 if a=0 then .bad 17 st else match st.ns[(a-1).toNat]? with
  |none=>.bad 0 st
  |some n=>.ok ((n.2[(Bu (B3 d n.1) s).toNat]?).getD 0) (st.note (1,a,Bu (B3 d n.1) s))
def newX(s:KB)(st:St):Rx Int:=
 if 4096<=st.ns.length then .bad 21 st else .ok ((st.ns.length:Int)+1) {st with ns:=st.ns++[(BA d s,zB (B3 d (BA d s)).length 0)],lg:=st.lg++[(3,(st.ns.length:Int)+1,BA d s)]}
def intB(sc:Sc):XY->Bool
 |[]=>false
 |a::_=>decide ((Ao d sc a).1=Ak)
def C7(C:Cf)(p:Pr)(vals:XZ)(b:Bool)(op n:Int)(s:KB)(ks:List (St->Rx Int))(st:St):Rx Int:=
 if op=1∨op=2 then .ok n st else if op=3 then .ok 0 st else if op=4 then varX d p vals s st
 else if op=5 then(BC ks 0 st).bind λa st=>fldX d a s st
 else if op=6 then newX d s st
 else if op=7 then(CW ks [] st).bind λl st=>C (BG d s) l st
 else if op=8 then(BC ks 0 st).bind λa st=>CV (AR (-a)) st
 else if op=18 then(BC ks 0 st).bind λa st=>.ok (1-a) st
 else if op=24 then(BC ks 0 st).bind λa st=>.ok (Bv a) st
 else if op=19 then(BC ks 0 st).bind λa st=>if a=0 then .ok 0 st else BC ks 1 st
 else if op=20 then(BC ks 0 st).bind λa st=>if a=0 then BC ks 1 st else .ok 1 st
 else if op=21 then(BC ks 0 st).bind λa st=>if a=0 then BC ks 2 st else BC ks 1 st
 else(BC ks 0 st).bind λv st=>(BC ks 1 st).bind λw st=>CV (AC op v w) (Dr b op st)
mutual
def Dt(C:Cf)(p:Pr)(vals:XZ):E->St->Rx Int
 |.mk op n s _ k=>C7 d C p vals (intB d (AA d p) k) op n s (evXs C p vals k)
def evXs(C:Cf)(p:Pr)(vals:XZ):XY->List (St->Rx Int)
 |[]=>[]
 |e::es=>Dt C p vals e::evXs C p vals es
end
def Ck(Sn:Sf)(c:Nat)(i:Int)(args:XZ)(st:St):Rx Int:=
 if 200<=c then .bad 19 st else match d.procs[i.toNat]? with
  |none=>.bad 0 st
  |some p=>(Sn (c+1) p p.body (args++zB p.locals.length 0) st).bind λr st=>.ok (r.2.getD 0) st
def setX(p:Pr)(s:KB)(v:Int)(vals:XZ)(st:St):Rx Rt:=
 if 0<=Bu p.vars s then .ok (vals.set (Bu p.vars s).toNat v,none) st else .ok (vals,none) {st with g:=st.g.set (Bu d.globals s).toNat v,lg:=st.lg++[(2,0,Bu d.globals s)]}
def putX(a v:Int)(s:KB)(st:St):Rx Unit:=
 if a=0 then .bad 17 st else match st.ns[(a-1).toNat]? with
  |none=>.bad 0 st
  |some n=>.ok () {st with ns:=st.ns.set (a-1).toNat (n.1,n.2.set (Bu (B3 d n.1) s).toNat v),lg:=st.lg++[(2,a,Bu (B3 d n.1) s)]}
section
variable(F:Nat)(Sn:Sf)(c:Nat)(p:Pr)
def CH(vals:XZ)(e:E)(st:St):Rx Int:=Dt d (Ck d Sn c) p vals e st
def Ei(cond:E)(body:XK):Nat->XZ->St->Rx Rt
 |0,_,st=>.bad 20 st
 |n+1,vals,st=>(CH d Sn c p vals cond st).bind λa st=>if a=0 then .ok (vals,none) st else(Sn c p body vals st).bind λr st=>match r.2 with
  |some _=>.ok r st
  |none=>(Eh F st).bind λ_ st=>Ei cond body n r.1 st
def Fj(n:Nat)(s:S)(vals:XZ)(st:St):Rx Rt:=
 if s.op=1 then(CH d Sn c p vals (s.es.getD 0 Ge) st).bind λv st=>setX d p s.s v vals st
 else if s.op=2 then(CH d Sn c p vals (s.es.getD 0 Ge) st).bind λa st=>(CH d Sn c p vals (s.es.getD 1 Ge) st).bind λv st=>(putX d a v s.s st).bind λ_ st=>.ok (vals,none) st
 else if s.op=3 then(CH d Sn c p vals (s.es.getD 0 Ge) st).bind λa st=>if a=0 then Sn c p s.xs vals st else Sn c p s.ls vals st
 else if s.op=4 then Ei d F Sn c p (s.es.getD 0 Ge) s.ls n vals st
 else if s.op=5 then match s.es with
  |[]=>.ok (vals,some 0) st
  |e::_=>(CH d Sn c p vals e st).bind λv st=>.ok (vals,some v) st
 else if s.op=6 then(CH d Sn c p vals (s.es.getD 0 Ge) st).bind λ_ st=>.ok (vals,none) st
 else .ok (vals,none) st
def Dx(n:Nat)(s:S)(vals:XZ)(st:St):Rx Rt:=(Eh F st).bind λ_ st=>Fj d F Sn c p n s vals st
end
def D5(f:S->XZ->St->Rx Rt):XK->XZ->St->Rx Rt
 |[],vals,st=>.ok (vals,none) st
 |s::l,vals,st=>(f s vals st).bind λr st=>match r.2 with
  |some _=>.ok r st
  |none=>D5 f l r.1 st
def AU(F:Nat):Nat->Sf
 |0=>λ_ _ _ _ st=>.bad 20 st
 |n+1=>λc p l vals st=>D5 (Dx d F (AU F n) c p (n+1)) l vals st
def CX(F:Nat)(i:Int)(args:XZ)(st:St):Rx Int:=Ck d (AU d F (F+1)) 0 i args st
end
variable{d:Ds}
theorem evXs_map(C:Cf)(p:Pr)(vals:XZ):∀k:XY,evXs d C p vals k=k.map (Dt d C p vals)
 |[]=>by unfold evXs;rfl
 |e::es=>by unfold evXs;rw[evXs_map C p vals es];rfl
theorem Ia(C:Cf)(p:Pr)(vals:XZ)(e:E)(st:St):Dt d C p vals e st=C7 d C p vals (intB d (AA d p) e.k) e.op e.n e.s (e.k.map (Dt d C p vals)) st:=by
 cases e;unfold Dt;rw[evXs_map];rfl
theorem Kl{f:E->St->Rx Int}{k:XY}{i:Nat}{e:E}(h:k[i]?=some e):BC (k.map f) i=f e:=by
 grind[BC]
section
variable{C:Cf}{p:Pr}{vals:XZ}{b:Bool}{op n:Int}{s:KB}{ks:List (St->Rx Int)}{st:St}
theorem Ib(h:op=1∨op=2):C7 d C p vals b op n s ks st=.ok n st:=by rcases h with rfl|rfl<;>rfl
theorem LZ(h:op=3):C7 d C p vals b op n s ks st=.ok 0 st:=by subst h;rfl
theorem L8(h:op=4):C7 d C p vals b op n s ks st=varX d p vals s st:=by subst h;rfl
theorem Km(h:op=5):C7 d C p vals b op n s ks st=(BC ks 0 st).bind λa st=>fldX d a s st:=by subst h;rfl
theorem L9(h:op=6):C7 d C p vals b op n s ks st=newX d s st:=by subst h;rfl
theorem Ic(h:op=7):C7 d C p vals b op n s ks st=(CW ks [] st).bind λl st=>C (BG d s) l st:=by subst h;rfl
theorem Kn(h:op=8):C7 d C p vals b op n s ks st=(BC ks 0 st).bind λa st=>CV (AR (-a)) st:=by subst h;rfl
theorem cX18(h:op=18):C7 d C p vals b op n s ks st=(BC ks 0 st).bind λa st=>.ok (1-a) st:=by subst h;rfl
theorem cX24(h:op=24):C7 d C p vals b op n s ks st=(BC ks 0 st).bind λa st=>.ok (Bv a) st:=by subst h;rfl
theorem cX19(h:op=19):C7 d C p vals b op n s ks st=(BC ks 0 st).bind λa st=>if a=0 then .ok 0 st else BC ks 1 st:=by subst h;rfl
theorem cX20(h:op=20):C7 d C p vals b op n s ks st=(BC ks 0 st).bind λa st=>if a=0 then BC ks 1 st else .ok 1 st:=by subst h;rfl
theorem cX21(h:op=21):C7 d C p vals b op n s ks st=(BC ks 0 st).bind λa st=>if a=0 then BC ks 2 st else BC ks 1 st:=by subst h;rfl
theorem FG(h:9<=op/\op<=23/\op≠18/\op≠19/\op≠20/\op≠21):C7 d C p vals b op n s ks st=(BC ks 0 st).bind λv st=>(BC ks 1 st).bind λw st=>CV (AC op v w) (Dr b op st):=by
 grind[C7]
end
end Go.Proofs
namespace Go.Proofs
open Go Go.Sx
section
variable{d:Ds}{sc:Sc}{e:E}{p:Pr}
structure CallK (d:Ds)(sc:Sc)(e:E)(pr:Pr)(i:Nat):Prop where
 idx:BG d e.s=i
 at_:d.procs[i]?=some pr
 len:e.k.length=pr.params.length
 fit:∀(j:Nat) a f,e.k[j]?=some a->pr.params[j]?=some f->∃u,Ao d sc a=(u,0)/\Bt d u f.ty=true
theorem fitAll_at:∀{l:XN}{fs:XX},Er d l fs=true->∀(j:Nat) a f,l[j]?=some a->fs[j]?=some f->Bt d a f.ty=true
 |[],_,_,j,a,f,h,_=>by simp at h
 |_::_,[],_,j,a,f,_,h=>by simp at h
 |b::l,g::fs,h,j,a,f,h1,h2=>by
  unfold Er at h;rw[zD]at h;cases j with
  |zero=>simp_all
  |succ j=>exact fitAll_at h.2 j a f (by simpa using h1) (by simpa using h2)
theorem callT_ok{s t:KB}{l:XN}(h:Es d s l=(t,0)):∃(pr:Pr)(i:Nat),BG d s=i/\d.procs[i]?=some pr/\l.length=pr.params.length/\Er d l pr.params=true/\t=pr.result:=by
 unfold Es B6 at h;unfold BG;rcases Cv (λx:Pr=>decide (x.name=s)) d.procs with⟨-,o,-⟩|⟨i,pr,q1,o,q3,-⟩;.simp_all
 grind
theorem callK_of(hk:∀x∈e.k,(Ao d sc x).2=0){t:KB}(h:Es d e.s (e.k.map λx=>(Ao d sc x).1)=(t,0)):∃pr i,CallK d sc e pr i/\t=pr.result:=by
 obtain⟨pr,i,h1,h2,o,H,J⟩:=callT_ok h;refine⟨pr,i,⟨h1,h2,by simpa using o,λj a f ha hf=>⟨(Ao d sc a).1,Bw rfl (hk a (xw ha)),fitAll_at H j _ f (by simp[ha]) hf⟩⟩,J⟩
inductive Dy (d:Ds)(sc:Sc)(e:E):KB->Prop where
 |int (h:e.op=1) (hn:0<=e.n/\e.n<=1099511627776):Dy d sc e Ak
 |bool (h:e.op=2) (hn:e.n=0∨e.n=1):Dy d sc e Ay
 |nil (h:e.op=3) (hn:e.n=0):Dy d sc e Dm
 |var {t} (h:e.op=4) (hl:Bn sc.vars e.s=t) (hne:t≠sE):Dy d sc e t
 |fld {t u} {a:E} (h:e.op=5) (hk:e.k=[a]) (ha:Ao d sc a=(u,0)) (ht:Dd d u e.s=(t,0)):Dy d sc e t
 |new (h:e.op=6) (hn:BK d e.s=true):Dy d sc e e.s
 |call {pr:Pr} {i:Nat} (h:e.op=7) (hc:CallK d sc e pr i) (hr:pr.result≠sE):Dy d sc e pr.result
 |neg {a:E} (h:e.op=8) (hk:e.k=[a]) (ha:Ao d sc a=(Ak,0)):Dy d sc e Ak
 |not {a:E} (h:e.op=18) (hk:e.k=[a]) (ha:Ao d sc a=(Ay,0)):Dy d sc e Ay
 |log {a:E} (h:e.op=24) (hk:e.k=[a]) (ha:Ao d sc a=(Ak,0)):Dy d sc e Ak
 |and {a b:E} (h:e.op=19) (hk:e.k=[a,b]) (ha:Ao d sc a=(Ay,0)) (hb:Ao d sc b=(Ay,0)):Dy d sc e Ay
 |or {a b:E} (h:e.op=20) (hk:e.k=[a,b]) (ha:Ao d sc a=(Ay,0)) (hb:Ao d sc b=(Ay,0)):Dy d sc e Ay
 |cond {a b c:E} {t u w} (h:e.op=21) (hk:e.k=[a,b,c]) (ha:Ao d sc a=(Ay,0)) (hb:Ao d sc b=(u,0)) (hc:Ao d sc c=(w,0)) (hu:u=t∨Bt d u t=true) (hw:w=t∨Bt d w t=true) (ht:t=if u=Dm then w else u):Dy d sc e t
 |eq {a b:E} {u w} (h:e.op=14∨e.op=15) (hk:e.k=[a,b]) (ha:Ao d sc a=(u,0)) (hb:Ao d sc b=(w,0)) (hf:Bt d u w=true∨Bt d w u=true):Dy d sc e Ay
 |cmp {a b:E} (h:e.op=16∨e.op=17) (hk:e.k=[a,b]) (ha:Ao d sc a=(Ak,0)) (hb:Ao d sc b=(Ak,0)):Dy d sc e Ay
 |ari {a b:E} (h:e.op=9∨e.op=10∨e.op=11∨e.op=12∨e.op=13∨e.op=22∨e.op=23) (hk:e.k=[a,b]) (ha:Ao d sc a=(Ak,0)) (hb:Ao d sc b=(Ak,0)):Dy d sc e Ak
theorem kindX(B:sc.body=true){t:KB}(hv:VE e)(ht:Ao d sc e=(t,0)):Dy d sc e t:=by
 obtain⟨hk,hn⟩:=J6 ht;obtain⟨a1,a2,a3,J⟩:=arityB hv.node;unfold EN at hn;unfold numB at J;have one:BD e.op=1->∃a,e.k=[a]:=λh=>list1 ((a2 (by omega)).trans h);have Z:BD e.op=2->∃a b,e.k=[a,b]:=λh=>list2 ((a2 (by omega)).trans h);have L:BD e.op=3->∃a b c,e.k=[a,b,c]:=λh=>list3 ((a2 (by omega)).trans h);by_cases h1:e.op=1
 .rw[if_pos h1]at hn J;cases hn;exact .int h1 (of_decide_eq_true J)
 rw[if_neg h1]at hn J;by_cases h2:e.op=2
 .rw[if_pos h2]at hn J;cases hn;exact .bool h2 (of_decide_eq_true J)
 rw[if_neg h2]at hn J;have J:e.n=0:=of_decide_eq_true J;by_cases K:e.op=3
 .rw[if_pos K]at hn;cases hn;exact .nil K J
 rw[if_neg K]at hn;by_cases T:e.op=4
 .rw[if_pos T]at hn;split at hn;.simp at hn
  .rename_i hne;simp only[zq,and_true]at hn;exact .var T hn (hn▸hne)
 rw[if_neg T]at hn;by_cases D:e.op=5
 .obtain⟨a,ha⟩:=one (by rw[D];rfl);rw[if_pos D,ha]at hn;rw[ha]at hk;exact .fld D ha (Bw rfl (hk a (by simp))) hn
 rw[if_neg D]at hn;by_cases h6:e.op=6
 .rw[if_pos h6,if_neg (by rw[B];decide)]at hn;split at hn;.simp at hn
  .rename_i U;simp only[zq,and_true]at hn;subst hn;exact .new h6 (by simpa using U)
 rw[if_neg h6]at hn;by_cases h7:e.op=7
 .rw[if_pos h7]at hn;unfold E6 at hn;rw[if_pos B]at hn;split at hn;.simp at hn
  .rename_i hne;obtain⟨pr,i,hc,rfl⟩:=callK_of hk hn;exact .call h7 hc λh=>hne ⟨by rw[hn],by rw[hn];exact h⟩
 rw[if_neg h7]at hn;by_cases Y:e.op=14∨e.op=15
 .obtain⟨a,b,o⟩:=Z (by rcases Y with h|h<;>(rw[h];rfl));rw[if_pos Y,o]at hn;rw[o]at hk;obtain⟨g,rfl⟩:=Ez hn;exact .eq Y o (Bw rfl (hk a (by simp))) (Bw rfl (hk b (by simp))) (by simpa using g)
 rw[if_neg Y]at hn;by_cases O:e.op=16∨e.op=17
 .obtain⟨a,b,o⟩:=Z (by rcases O with h|h<;>(rw[h];rfl));rw[if_pos O,o]at hn;rw[o]at hk;obtain⟨g,rfl⟩:=Ez hn;obtain⟨X,A⟩:=allT2 g;exact .cmp O o (Bw X (hk a (by simp))) (Bw A (hk b (by simp)))
 rw[if_neg O]at hn;by_cases R:e.op=18∨e.op=19∨e.op=20
 .rw[if_pos R]at hn;rcases R with h|h
  .obtain⟨a,ha⟩:=one (by rw[h];rfl);rw[ha]at hn hk;obtain⟨g,rfl⟩:=Ez hn;exact .not h ha (Bw (allT1 g) (hk a (by simp)))
  .obtain⟨a,b,o⟩:=Z (by rcases h with h|h<;>(rw[h];rfl));rw[o]at hn hk;obtain⟨g,rfl⟩:=Ez hn;obtain⟨X,A⟩:=allT2 g;rcases h with h|h;.exact .and h o (Bw X (hk a (by simp))) (Bw A (hk b (by simp)))
   .exact .or h o (Bw X (hk a (by simp))) (Bw A (hk b (by simp)))
 rw[if_neg R]at hn;by_cases I:e.op=21
 .obtain⟨a,b,c,H⟩:=L (by rw[I];rfl);rw[if_pos I,H]at hn;rw[H]at hk;obtain⟨g,A⟩:=Ez hn;simp only[zI,yZ,uF,uG,zD,decide_eq_true_eq,yz]at g A;refine .cond I H (Bw g.1 (hk a (by simp))) (Bw rfl (hk b (by simp))) (Bw rfl (hk c (by simp))) ?_ ?_ A.symm;.grind[inr,Bt]
  grind[Bt,absurd,inr]
 rw[if_neg I]at hn;obtain⟨g,rfl⟩:=Ez hn;have hop:e.op=8∨e.op=24∨(e.op=9∨e.op=10∨e.op=11∨e.op=12∨e.op=13∨e.op=22∨e.op=23):=by
  grind[BD]
 rcases hop with h|h|h
 .obtain⟨a,ha⟩:=one (by rw[h];rfl);rw[ha]at g hk;exact .neg h ha (Bw (allT1 g) (hk a (by simp)))
 .obtain⟨a,ha⟩:=one (by rw[h];rfl);rw[ha]at g hk;exact .log h ha (Bw (allT1 g) (hk a (by simp)))
 .obtain⟨a,b,o⟩:=Z (by rcases h with h|h|h|h|h|h|h<;>(rw[h];rfl));rw[o]at g hk;obtain⟨X,A⟩:=allT2 g;exact .ari h o (Bw X (hk a (by simp))) (Bw A (hk b (by simp)))
def DO(d:Ds)(p:Pr)(s:S):Prop:=(∃n,(Ed d (AA d p) p.result n s).2=0)/\∃k,Ep k s=true
theorem Ko{res:KB}:∀{l:XK}{n:Int},(AN d sc res n l).2=0->∀s∈l,∃n',(Ed d sc res n' s).2=0
 |[],_,_,s,o=>by cases o
 |x::l,n,h,s,o=>by
  rw[JN]at h;split at h;.omega
  .rename_i H;rcases zJ.1 o with rfl|o;.grind
   .exact Ko h s o
theorem Kp{k:Int}:∀{l:XK},CF k l=true->∀s∈l,Ep k s=true
 |[],_,s,o=>by cases o
 |x::l,h,s,o=>by
  unfold CF at h;rw[zD]at h;rcases zJ.1 o with rfl|o;.exact h.1
  .exact Kp h.2 s o
theorem okS_eq(k:Int)(s:S):Ep k s=(decide (k<=60)&&Db s.op s.s s.es s.ls.length s.xs.length&&CF (k+1) s.ls&&CF (k+1) s.xs):=by cases s;unfold Ep;rfl
theorem DO.parts{s:S}(h:DO d p s):Ec d (AA d p) p.result s.op s.s s.es=0/\GA s.op s.s s.es s.ls.length s.xs.length=true/\(∀e∈s.es,Bh e=true)/\(∀x∈s.ls,DO d p x)/\∀x∈s.xs,DO d p x:=by
 obtain⟨⟨n,h1⟩,k,h2⟩:=h;rw[okS_eq]at h2;simp only[zD]at h2;obtain⟨⟨⟨-,H⟩,J⟩,Z⟩:=h2;unfold Db at H;rw[zD,yK]at H;rw[stT_eq]at h1;split at h1;.omega
 .rename_i Y;split at h1;.omega
  .rename_i h6;exact⟨by simpa using Y,H.1,H.2,λx o=>⟨Ko (by simpa using h6) x o,_,Kp J x o⟩,λx o=>⟨Ko h1 x o,_,Kp Z x o⟩⟩
inductive KindS (d:Ds)(p:Pr)(s:S):Prop where
 |set {e:E} {u t:KB} (h:s.op=1) (he:s.es=[e]) (hv:Bh e=true) (ht:Ao d (AA d p) e=(u,0)) (hl:Bn (AA d p).vars s.s=t) (hne:t≠sE) (hf:Bt d u t=true)
 |put {a e:E} {u w t:KB} (h:s.op=2) (he:s.es=[a,e]) (hv:Bh a=true) (hw:Bh e=true) (ha:Ao d (AA d p) a=(u,0)) (ht:Ao d (AA d p) e=(w,0)) (hl:Dd d u s.s=(t,0)) (hf:Bt d w t=true)
 |cond {e:E} (h:s.op=3) (he:s.es=[e]) (hv:Bh e=true) (ht:Ao d (AA d p) e=(Ay,0))
 |loop {e:E} (h:s.op=4) (he:s.es=[e]) (hv:Bh e=true) (ht:Ao d (AA d p) e=(Ay,0))
 |ret0 (h:s.op=5) (he:s.es=[]) (hr:p.result=sE)
 |ret1 {e:E} {u:KB} (h:s.op=5) (he:s.es=[e]) (hv:Bh e=true) (ht:Ao d (AA d p) e=(u,0)) (hr:p.result≠sE) (hf:Bt d u p.result=true)
 |call {e:E} {pr:Pr} {i:Nat} (h:s.op=6) (he:s.es=[e]) (hv:Bh e=true) (ho:e.op=7) (hc:CallK d (AA d p) e pr i)
theorem kindS{s:S}(h:DO d p s):KindS d p s:=by
 obtain⟨h1,h2,o,-⟩:=h.parts;unfold Ec at h1;unfold GA at h2;by_cases Y:s.op=6
 .rw[if_pos Y]at h1;rw[if_neg (by omega),if_neg (by omega),if_neg (by omega),if_neg (by omega),if_neg (by omega),if_pos Y]at h2;obtain⟨-,H,D,-⟩:=of_decide_eq_true h2;obtain⟨e,he⟩:=list1 H;rw[he]at h1 D;simp only at h1;split at h1;.omega
  .rename_i R;obtain⟨J,X⟩:=JZ d (AA d p) e.k [] (by simpa using R);rw[X,zO]at h1;obtain⟨pr,i,hc,-⟩:=callK_of (t:=(Es d e.s (e.k.map λx=>(Ao d (AA d p) x).1)).1) J (Prod.ext rfl h1);exact .call Y he (o e (by rw[he];simp)) D hc
 rw[if_neg Y]at h1;split at h1;.omega
 rename_i R;obtain⟨J,X⟩:=JZ d (AA d p) s.es [] (by simpa using R);rw[X,zO]at h1;have ty:∀{e:E},e∈s.es->Ao d (AA d p) e=((Ao d (AA d p) e).1,0):=λhe=>Bw rfl (J _ he);by_cases O:s.op=1
 .rw[if_pos O]at h1;rw[if_pos O,zD]at h2;obtain⟨e,he⟩:=list1 (of_decide_eq_true h2.2).1;have hm:e∈s.es:=by rw[he];simp
  split at h1;.cases h1
  rename_i hne;split at h1
  .rename_i hf;rw[he]at hf;exact .set O he (o e hm) (ty hm) rfl hne hf
  .cases h1
 rw[if_neg O]at h1 h2;by_cases A:s.op=2
 .rw[if_pos A]at h1;rw[if_pos A,zD]at h2;obtain⟨a,e,he⟩:=list2 (of_decide_eq_true h2.2).1;have hm:a∈s.es:=by rw[he];simp
  have Z:e∈s.es:=by rw[he];simp
  split at h1;.omega
  rename_i H;split at h1
  .rename_i hf;rw[he]at hf H;simp only[zI,uF,uG]at hf H;exact .put A he (o a hm) (o e Z) (ty hm) (ty Z) (Prod.ext rfl (by simpa using H)) hf
  .cases h1
 rw[if_neg A]at h1 h2;by_cases I:s.op=3
 .rw[if_pos (.inl I)]at h1;rw[if_pos I]at h2;obtain⟨e,he⟩:=list1 (of_decide_eq_true h2).2;have hm:e∈s.es:=by rw[he];simp
  split at h1
  .rename_i hf;rw[he]at hf;exact .cond I he (o e hm) (Bw hf (J e hm))
  .cases h1
 rw[if_neg I]at h2;by_cases L:s.op=4
 .rw[if_pos (.inr L)]at h1;rw[if_pos L]at h2;obtain⟨e,he⟩:=list1 (of_decide_eq_true h2).2.1;have hm:e∈s.es:=by rw[he];simp
  split at h1
  .rename_i hf;rw[he]at hf;exact .loop L he (o e hm) (Bw hf (J e hm))
  .cases h1
 rw[if_neg (by omega)]at h1;rw[if_neg L]at h2;by_cases B:s.op=5
 .rw[if_pos B]at h1 h2;obtain⟨-,hl,-⟩:=of_decide_eq_true h2;cases he:s.es with
  |nil=>
   rw[he]at h1;simp only[yZ,uH,if_true]at h1;split at h1;.rename_i hr;exact .ret0 B he hr
   .cases h1
  |cons e r=>
   have hr:r=[]:=by
    grind
   subst hr;have hm:e∈s.es:=by rw[he];simp
   rw[he]at h1;simp only[zI,yZ,zg,uH,uF]at h1;rw[if_neg (by omega)]at h1;split at h1;.rename_i hf;exact .ret1 B he (o e hm) (ty hm) hf.1 hf.2
   .cases h1
 simp_all
structure DG (d:Ds)(p:Pr):Prop where
 body:∀s∈p.body,DO d p s
 vars:∀f∈p.vars,known d f.ty=true
 res:p.result=sE∨known d p.result=true
 lens:p.params.length<=6/\p.locals.length<=12
theorem oneT_known{l:XX}{i:Nat}{f:Fld}(h:BO d l i f=0):known d f.ty=true:=by
 grind[BO]
theorem declT_known{l:XX}(h:Cu d l=0):∀f∈l,known d f.ty=true:=by
 intro f hf;obtain⟨i,hi⟩:=uJ.1 hf;unfold Cu at h;cases H:Aq (λi f=>if BO d l i f≠0 then some (BO d l i f)else none) 0 l with
 |none=>
  grind[GJ,oneT_known]
 |some b=>
  exfalso;rw[H]at h;simp only[xb]at h;subst h;have key:∀(o:XX)(i:Nat),Aq (λi f=>if BO d l i f≠0 then some (BO d l i f)else none) i o≠some 0:=by
   intro o;induction o with
   |nil=>intro i h;cases h
   |cons x o J=>
    grind[Aq,BO]
  exact key l 0 H
theorem Kq(hv:A8 d=true)(hc:B0 d=none):∀p∈d.procs,DG d p:=by
 intro p hp;obtain⟨i,hi⟩:=uJ.1 hp;unfold B0 at hc;obtain⟨-,h⟩:=ER hc;obtain⟨Y,h⟩:=ER h;obtain⟨-,h⟩:=ER h;obtain⟨hb,-⟩:=ER h;unfold F6 at Y;unfold Et at hb;have a1:=GJ Y i p hi;have a2:=GJ hb i p hi;unfold A8 at hv;simp only[zD,yK]at hv;have o:=hv.1.2 p hp;unfold DX at o;simp only[zD]at o;obtain⟨⟨⟨⟨-,H⟩,f2⟩,-⟩,O⟩:=o;unfold Dc at H f2;rw[zD,decide_eq_true_eq]at H f2;have A:=H.1;have I:=f2.1;refine⟨λs J=>⟨?_,1,Kp (of_decide_eq_true O).1 s J⟩,?_,?_,by omega,by omega⟩;.grind[Ko]
 .split at a1;.cases a1
  split at a1;.cases a1
  rename_i Z;have Z:Cu d (p.params++p.locals)=0:=by simpa using Z
  exact declT_known Z
 grind
end
section
variable{d:Ds}{F:Nat}
def Rx.st{α:Type}:Rx α->St|.ok _ s=>s|.bad _ s=>s
inductive LgOk:Nat->List (Int×Int×Int)->Nat->Prop where
 |nil (n:Nat):LgOk n [] n
 |acc {n m:Nat} {k a f:Int} {l:List (Int×Int×Int)} (hk:k=1∨k=2) (h0:0<=a) (h1:a<=(n:Int)) (h2:0<=f) (h:LgOk n l m):LgOk n ((k,a,f)::l) m
 |alloc {n m:Nat} {f:Int} {l:List (Int×Int×Int)} (h2:0<=f) (h:LgOk (n+1) l m):LgOk n ((3,(n:Int)+1,f)::l) m
theorem LgOk.app{n m k:Nat}{l o:List (Int×Int×Int)}(h:LgOk n l m)(H:LgOk m o k):LgOk n (l++o) k:=by
 induction h with
 |nil=>exact H
 |acc a b c d _ J=>grind[acc]
 |alloc a _ J=>exact .alloc a (J H)
abbrev Gm:=XZ×List (Int×XZ)
inductive Ej:Gm->List (Int×Int×Int)->Gm->Prop where
 |nil (x:Gm):Ej x [] x
 |rd {x y:Gm} {l:List (Int×Int×Int)} {n f:Int} (h:Ej x l y):Ej x ((1,n,f)::l) y
 |wg {g:XZ} {ns:List (Int×XZ)} {y:Gm} {l:List (Int×Int×Int)} {i:Nat} {v:Int} (hi:i<g.length) (h:Ej (g.set i v,ns) l y):Ej (g,ns) ((2,0,(i:Int))::l) y
 |wf {g:XZ} {ns:List (Int×XZ)} {y:Gm} {l:List (Int×Int×Int)} {k i:Nat} {ty v:Int} {f:XZ} (hk:ns[k]?=some (ty,f)) (hi:i<f.length) (h:Ej (g,ns.set k (ty,f.set i v)) l y):Ej (g,ns) ((2,(k:Int)+1,(i:Int))::l) y
 |al {g:XZ} {ns:List (Int×XZ)} {y:Gm} {l:List (Int×Int×Int)} {ty:Int} {n:Nat} (h:Ej (g,ns++[(ty,zB n 0)]) l y):Ej (g,ns) ((3,(ns.length:Int)+1,ty)::l) y
theorem Ej.app{x y z:Gm}{l H:List (Int×Int×Int)}(h:Ej x l y)(k:Ej y H z):Ej x (l++H) z:=by
 induction h with
 |nil=>exact k
 |rd _ o=>exact .rd (o k)
 |wg hi _ o=>exact .wg hi (o k)
 |wf hk hi _ o=>grind[wf]
 |al _ o=>exact .al (o k)
structure Gr (F n:Nat)(s s':St):Prop where
 ty:∀(i:Nat) x,s.ns[i]?=some x->∃y,s'.ns[i]?=some y/\y.1=x.1
 tk:s.tk<=s'.tk
 fu:s.tk<=F->s'.tk<=F
 lg:∃l,s'.lg=s.lg++l/\LgOk s.ns.length l s'.ns.length/\((∀a∈l,a.1=1)->s'.g=s.g/\s'.ns=s.ns)
 w:s'.lg.length+s'.cm+4000*s.tk<=s.lg.length+s.cm+n+4000*s'.tk
 tr:∃l,s'.lg=s.lg++l/\Ej (s.g,s.ns) l (s'.g,s'.ns)
theorem Gr.refl(s:St):Gr F 0 s s:=⟨λ_ x h=>⟨x,h,rfl⟩,yu _,λh=>h,⟨[],by simp,.nil _,λ_=>⟨rfl,rfl⟩⟩,by omega,⟨[],by simp,.nil _⟩⟩
theorem Gr.trans{n m:Nat}{a b c:St}(h:Gr F n a b)(k:Gr F m b c):Gr F (n+m) a c:=⟨λi x Y=>by
 obtain⟨y,h1,h2⟩:=h.ty i x Y;obtain⟨z,I,L⟩:=k.ty i y h1;simp_all,yr h.tk k.tk,λe=>k.fu (h.fu e),by
 obtain⟨l,O,H,R⟩:=h.lg;obtain⟨J,Z,o,A⟩:=k.lg;refine⟨l++J,by simp_all,H.app o,λha=>?_⟩;simp_all,by have:=h.w;have:=k.w;omega,by
 obtain⟨l,O,H⟩:=h.tr;obtain⟨J,Z,o⟩:=k.tr;exact⟨l++J,by simp_all,H.app o⟩⟩
theorem Gr.le{n m:Nat}{a b:St}(h:Gr F n a b)(hn:n<=m):Gr F m a b:=⟨h.ty,h.tk,h.fu,h.lg,by have:=h.w;omega,h.tr⟩
theorem Gr.len{n:Nat}{a b:St}(h:Gr F n a b):a.ns.length<=b.ns.length:=by
 cases hk:a.ns.length with
 |zero=>omega
 |succ k=>
  obtain⟨y,o,-⟩:=h.ty k _ (yf (by omega));grind
theorem I1{s:St}{i:Nat}:s.mm.nodes[i]?=(s.ns[i]?).map λn=>⟨n.1,Ah,n.2⟩:=xJ ..
theorem mm_len{s:St}:s.mm.nodes.length=s.ns.length:=vp ..
theorem Ma{m m':Mm}(hl:m.nodes.length<=m'.nodes.length)(hn:∀(i:Nat) x,m.nodes[i]?=some x->∃y,m'.nodes[i]?=some y/\y.ty=x.ty){t:KB}{v:Int}(h:AW d m t v=true):AW d m' t v=true:=by
 unfold AW at h⊢;split;.simp_all
 rename_i h1;rw[if_neg h1]at h;split;.simp_all
 rename_i h2;rw[if_neg h2,decide_eq_true_eq]at h;refine decide_eq_true ?_;rcases h with h|⟨p1,p2,p3⟩;.exact .inl h
 .refine .inr ⟨p1,by omega,?_⟩;cases o:m.nodes[(v-1).toNat]? with
  |none=>simp_all
  |some x=>
   rw[o]at p3;obtain⟨y,H,J⟩:=hn _ _ o;simp_all
theorem Gr.right{n:Nat}{a b:St}(h:Gr F n a b){t:KB}{v:Int}(hr:AW d a.mm t v=true):AW d b.mm t v=true:=by
 refine Ma (m:=a.mm) (by rw[mm_len,mm_len];exact h.len) (λi x o=>?_) hr;rw[I1]at o;cases H:a.ns[i]? with
 |none=>simp_all
 |some y=>
  rw[H]at o;cases o;obtain⟨z,J,Z⟩:=h.ty i y H;simp_all[Ah,I1]
theorem Gr.val{n:Nat}{a b:St}(h:Gr F n a b){t:KB}{v:Int}(hr:AX d a.mm t v):AX d b.mm t v:=by
 unfold AX at hr⊢;split;.simp_all
 .rename_i h1;rw[if_neg h1]at hr;exact h.right hr
theorem C8{m:Mm}{l:XX}{vs:XZ}:AE d m l vs=true↔l.length=vs.length/\∀(j:Nat) f v,l[j]?=some f->vs[j]?=some v->AW d m f.ty v=true:=by
 unfold AE;rw[zD,decide_eq_true_eq,GG];grind[tyAt]
theorem BS{m m':Mm}(hr:∀{t v},AW d m t v=true->AW d m' t v=true){l:XX}{vs:XZ}(h:AE d m l vs=true):AE d m' l vs=true:=by
 grind[C8]
theorem Mb{m:Mm}{l:XX}{vs:XZ}(h:AE d m l vs=true){i:Nat}{f:Fld}(hf:l[i]?=some f){v:Int}(hv:AW d m f.ty v=true):AE d m l (vs.set i v)=true:=by
 grind[C8,uK]
theorem NS(hv:A8 d=true){m:Mm}{t:KB}(h:known d t=true):AW d m t 0=true:=by
 unfold known at h;simp only[yz,decide_eq_true_eq]at h;rcases h with(rfl|rfl)|h;.rfl
 .rfl
 .exact Nv (F9 hv h)
theorem Kr(hv:A8 d=true){m:Mm}{l:XX}(h:∀f∈l,known d f.ty=true):AE d m l (zB l.length 0)=true:=by
 grind[C8,NS,xw]
theorem I2{m:Mm}{l H:XX}{vs o:XZ}(h:AE d m l vs=true)(J:AE d m H o=true):AE d m (l++H) (vs++o)=true:=by
 grind[C8,zK,uN,List.getElem?_append_right]
theorem Ks{m:Mm}(h1:hasT d=true)(h2:m.nodes.length<=4096)(o:∀n∈m.nodes,Eg d n=true)(H:AE d m d.globals m.globals=true)(J:∀n∈m.nodes,AE d m (B3 d n.ty) n.f=true):BX d m=true:=by
 grind[BX]
structure AO {α:Type}(d:Ds)(F n:Nat)(s:St)(r:Rx α)(Q:α->St->Prop):Prop where
 good:An d r.st.mm
 gr:Gr F n s r.st
 q:∀v s',r=.ok v s'->Q v s'
section
variable{α β:Type}{n m:Nat}{s:St}{r:Rx α}{Q:α->St->Prop}
theorem AO.ok{v:α}(G:An d s.mm)(h:Q v s):AO d F 0 s (.ok v s) Q:=⟨G,Gr.refl s,λ_ _ e=>by cases e;exact h⟩
theorem AO.bad{c:Int}(G:An d s.mm):AO d F 0 s (.bad c s:Rx α) Q:=⟨G,Gr.refl s,λ_ _ e=>by cases e⟩
theorem AO.le(h:AO d F n s r Q)(hn:n<=m):AO d F m s r Q:=⟨h.good,h.gr.le hn,h.q⟩
theorem AO.mono{o:α->St->Prop}(h:AO d F n s r Q)(k:∀v s',r=.ok v s'->Q v s'->o v s'):AO d F n s r o:=⟨h.good,h.gr,λv s' e=>k v s' e (h.q v s' e)⟩
theorem AO.bind{f:α->St->Rx β}{o:β->St->Prop}(h:AO d F n s r Q)(k:∀v s',r=.ok v s'->Q v s'->An d s'.mm->Gr F n s s'->AO d F m s' (f v s') o):AO d F (n+m) s (r.bind f) o:=by
 cases r with
 |ok v s'=>
  have H:=k v s' rfl (h.q v s' rfl) h.good h.gr;exact⟨H.good,h.gr.trans H.gr,H.q⟩
 |bad c s'=>exact⟨h.good,h.gr.le (by omega),λ_ _ e=>by cases e⟩
end
section
variable{s:St}(G:An d s.mm)
include G
omit G in
theorem Kt{n:Nat}{r:Rs}{s':St}(o:An d s'.mm)(g:Gr F n s s'){Q:Int->St->Prop}(h:∀v,r=.ok v->Q v s'):AO d F n s (CV r s') Q:=by
 cases r with
 |ok v=>exact⟨o,g,λ_ _ e=>by cases e;exact h v rfl⟩
 |bad c=>exact⟨o,g,λ_ _ e=>by cases e⟩
theorem Ho{p:Pr}{vals:XZ}(hv:AE d s.mm p.vars vals=true)(P:∀f∈p.vars,known d f.ty=true){nm t:KB}(hl:Bn (AA d p).vars nm=t)(hne:t≠sE):
  (∃(i:Nat)(f:Fld)(v:Int),Bu p.vars nm=i/\p.vars[i]?=some f/\vals[i]?=some v/\f.ty=t/\AX d s.mm t v/\varX d p vals nm s=.ok v s)∨
  ∃(i:Nat)(f:Fld)(v:Int),Bu p.vars nm=-1/\Bu d.globals nm=i/\d.globals[i]?=some f/\s.g[i]?=some v/\f.ty=t/\AX d s.mm t v/\varX d p vals nm s=.ok v (s.note (1,0,i)):=by
 obtain⟨p1,-,-,Y,-⟩:=BR G.mem;have hl:Bn (p.vars++d.globals) nm=t:=hl;have app:∀(a b:XX),Bn (a++b) nm=if 0<=Bu a nm then Bn a nm else Bn b nm:=λa b=>by
  rw[IT,IT,IT,List.find?_append];unfold Bu;rcases Cv (λf:Fld=>decide (f.name=nm)) a with⟨h1,h2,-⟩|⟨i,x,h1,-,O,-⟩;.grind
  simp_all
 rw[app]at hl;by_cases h0:0<=Bu p.vars nm
 .left;rw[if_pos h0]at hl;rcases Hj p.vars nm with⟨J,-⟩|⟨i,f,J,c2,c3,-⟩;.simp_all
  .obtain⟨v,o,H⟩:=IU hv c2;have e:f.ty=t:=c3.symm.trans hl;refine⟨i,f,v,J,c2,o,e,?_,?_⟩;.rw[<-e];exact(Fb G.valid (P f (xw c2))).2 H
   grind[varX]
 .right;rw[if_neg h0]at hl;rcases Hj d.globals nm with⟨J,-⟩|⟨i,f,J,c2,c3,-⟩;.simp_all
  .obtain⟨v,o,H⟩:=IU Y c2;have e:f.ty=t:=c3.symm.trans hl;have Z:known d f.ty=true:=yK.1 (Fc p1).1 f (xw c2);refine⟨i,f,v,?_,J,c2,o,e,?_,?_⟩
   .rcases Hj p.vars nm with⟨-,c⟩|⟨j,_,c,-⟩;.exact c
    omega
   .rw[<-e];exact(Fb G.valid Z).2 H
   .unfold varX;rw[if_neg h0,J,wH];have o:s.g[i]?=some v:=o;rw[o];rfl
theorem Ie{t nm ty:KB}(ht:Dd d t nm=(ty,0)){a:Int}(ha:AX d s.mm t a)(h0:a≠0):
  ∃(q i j:Nat)(o:Ty)(f:Fld)(fs:XZ)(v:Int),a=(q:Int)+1/\s.ns[q]?=some ((j:Int),fs)/\d.types[j]?=some o/\o∈d.types/\B3 d j=o.fields/\Bu o.fields nm=i/\o.fields[i]?=some f/\fs[i]?=some v/\AX d s.mm ty v/\f.ty=ty/\known d ty=true:=by
 obtain⟨n,i,j,o,f,v,b1,-,b3,b4,b5,b6,b7,b8,b9,J,Z,-,H⟩:=fld_ok G ht ha h0;obtain⟨q,rfl⟩:∃q:Nat,a=(q:Int)+1:=⟨(a-1).toNat,by omega⟩;rw[show((q:Int)+1-1).toNat=q by omega,I1]at b1;cases O:s.ns[q]? with
 |none=>simp_all
 |some x=>
  rw[O]at b1;cases b1;obtain⟨p1,-⟩:=BR G.mem;have Y:known d f.ty=true:=yK.1 ((Fc p1).2.2 o b7) f (xw b9);exact⟨q,i,j,o,f,x.2,v,rfl,by rw[O,<-b5],b6,b7,Ew b6 rfl,b8,b9,J,Z,H,H▸Y⟩
omit G in
theorem gr_note{a f:Int}(h0:0<=a)(h1:a<=(s.ns.length:Int))(h2:0<=f):Gr F 1 s (s.note (1,a,f)):=⟨λ_ x h=>⟨x,h,rfl⟩,yu _,λh=>h,⟨[(1,a,f)],rfl,.acc (.inl rfl) h0 h1 h2 (.nil _),λ_=>⟨rfl,rfl⟩⟩,by show(s.lg++[_]).length+_+_<=_;rw[zK,zL];show s.lg.length+1+s.cm+4000*s.tk<=s.lg.length+s.cm+1+4000*s.tk;omega,⟨[(1,a,f)],rfl,.rd (.nil _)⟩⟩
omit G in
theorem gr_cnt{b:Bool}{op:Int}:Gr F 1 s (Dr b op s):=by
 unfold Dr;split;.exact⟨λ_ x h=>⟨x,h,rfl⟩,yu _,λh=>h,⟨[],by simp,.nil _,λ_=>⟨rfl,rfl⟩⟩,by grind,⟨[],by simp,.nil _⟩⟩
 .exact(Gr.refl s).le (by omega)
theorem Mc{b:Bool}{op:Int}:An d (Dr b op s).mm:=by
 unfold Dr;split;.exact⟨G.valid,G.chk,G.mem⟩
 .exact G
theorem new_snd{nm:KB}(hn:BK d nm=true):AO d F 1 s (newX d nm s) λv s'=>AX d s'.mm nm v:=by
 unfold newX;split;.exact(AO.bad G).le (by omega)
 rename_i R;obtain⟨p1,T,p3,X,B⟩:=BR G.mem;have o:=F9 G.valid hn;obtain⟨Z,O,Y⟩:=xg.1 hn;have Y:Z.name=nm:=of_decide_eq_true Y;obtain⟨j,L⟩:=uJ.1 O;have A:BA d nm=(j:Int):=Y▸(Fc p1).2.1 j Z L;have D:=(yg.1 L).1;rw[A];have I:B3 d (j:Int)=Z.fields:=Ew L rfl;rw[I];obtain⟨s',J⟩:∃s':St,s'={s with ns:=s.ns++[((j:Int),zB Z.fields.length 0)],lg:=s.lg++[(3,(s.ns.length:Int)+1,(j:Int))]}:=⟨_,rfl⟩;rw[<-J];have g:Gr F 1 s s':=by
  rw[J];refine⟨λi x U=>⟨x,?_,rfl⟩,yu _,λh=>h,⟨[_],rfl,.alloc (by omega) ?_,λh=>(by simp_all)⟩,?_,⟨[_],rfl,.al (.nil _)⟩⟩;.grind
  .grind[LgOk,zK,zL]
  grind
 have H:s'.mm.nodes=s.mm.nodes++[⟨(j:Int),Ah,zB Z.fields.length 0⟩]:=by rw[J];simp[St.mm]
 have K:An d s'.mm:=by
  refine⟨G.valid,G.chk,Ks p1 ?_ (λn hm=>?_) ?_ λn hm=>?_⟩;.grind[zK,zL,mm_len]
  .rw[H]at hm;rcases vc.1 hm with hm|hm;.exact p3 n hm
   .rw[zZ.1 hm];exact decide_eq_true ⟨by simp_all,by simp_all⟩
  .have:s'.mm.globals=s.mm.globals:=by rw[J];rfl
   rw[this];exact BS (λh=>g.right h) X
  .rw[H]at hm;rcases vc.1 hm with hm|hm;.exact BS (λh=>g.right h) (B n hm)
   .rw[zZ.1 hm];show AE d s'.mm (B3 d (j:Int)) (zB Z.fields.length 0)=true;rw[I];exact Kr G.valid λf hf=>yK.1 ((Fc p1).2.2 Z O) f hf
 refine⟨K,g,λv s2 e=>?_⟩;cases e;unfold AX AW;rw[if_neg (D1 o kwNil),if_neg (D1 o kwInt),if_neg (D1 o kwBool),decide_eq_true_eq];grind[inr,zK,zL,mm_len,Int,List.getElem?_concat_length]
end
def CSnd(d:Ds)(F:Nat)(C:Cf):Prop:=∀(i:Nat) pr args s,d.procs[i]?=some pr->An d s.mm->AE d s.mm pr.params args=true->AO d F 0 s (C i args s) λv s'=>pr.result≠sE->AX d s'.mm pr.result v
theorem szEs_sum:∀l:XY,CE l=(l.map Az).sum
 |[]=>by unfold CE;rfl
 |e::l=>by unfold CE;rw[szEs_sum l];rfl
theorem szE_eq(e:E):Az e=1+(e.k.map Az).sum:=by cases e;unfold Az;rw[szEs_sum];rfl
theorem seq_snd{sc:Sc}{f:E->St->Rx Int}:∀(k:XY)(fs:XX)(acc:XZ)(gs:XX)(s:St),An d s.mm->AE d s.mm gs acc=true->k.length=fs.length->(∀f∈fs,known d f.ty=true)->
  (∀(j:Nat) a g,k[j]?=some a->fs[j]?=some g->∃u,Ao d sc a=(u,0)/\Bt d u g.ty=true)->
  (∀a∈k,∀(u:KB)(o:St)(n:Nat),Ao d sc a=(u,0)->An d o.mm->Gr F n s o->AO d F (Az a) o (f a o) λv s'=>AX d s'.mm u v)->
  AO d F (k.map Az).sum s (CW (k.map f) acc s) λl s'=>AE d s'.mm (gs++fs) l=true
 |[],fs,acc,gs,s,G,ha,hl,_,_,_=>by
  obtain rfl:fs=[]:=xI (by grind);rw[vn];exact AO.ok G ha
 |a::k,fs,acc,gs,s,G,ha,hl,J,ht,H=>by
  cases fs with
  |nil=>simp at hl
  |cons g fs=>
   obtain⟨u,hu,Z⟩:=ht 0 a g rfl rfl;have h1:=H a yI u s 0 hu G (Gr.refl s);rw[zI,zI,List.sum_cons];show AO d F _ s ((f a s).bind λv st=>CW (k.map f) (acc++[v]) st) _;refine h1.bind λv o _ hv A O=>?_;have I:=(Fb G.valid (J g yI)).1 (Ey G.valid Z hv);have Y:AE d o.mm (gs++[g]) (acc++[v])=true:=I2 (BS (λh=>O.right h) ha) (C8.2 ⟨rfl,λj f w hf hw=>by
    grind⟩)
   have:=seq_snd k fs (acc++[v]) (gs++[g]) o A Y (by simpa using hl) (λf hf=>J f (yJ _ hf)) (λj a g ha L=>ht (j+1) a g (by simpa using ha) (by simpa using L)) (λb hb u R n hu X B=>H b (yJ _ hb) u R _ hu X (O.trans B));simp_all
theorem Ku(hp:∀p∈d.procs,DG d p){i:Nat}{pr:Pr}(h:d.procs[i]?=some pr):∀f∈pr.params,known d f.ty=true:=λf hf=>(hp pr (xw h)).vars f (vu _ hf)
theorem If(hp:∀p∈d.procs,DG d p){C:Cf}(D:CSnd d F C){p:Pr}(hpo:DG d p){vals:XZ}:
  ∀(e:E)(t:KB)(s:St),VE e->Ao d (AA d p) e=(t,0)->An d s.mm->AE d s.mm p.vars vals=true->AO d F (Az e) s (Dt d C p vals e s) λv s'=>AX d s'.mm t v:=by
 intro e;induction e using E.ind with
 |h e T=>
 intro t s hv ht G Y;rw[Ia,szE_eq];have I:∀{a:E}{u:KB}{Z:St}{n:Nat},a∈e.k->Ao d (AA d p) a=(u,0)->An d Z.mm->Gr F n s Z->AO d F (Az a) Z (Dt d C p vals a Z) λv s'=>AX d s'.mm u v:=λhm ha o J=>T _ hm _ _ (hv.kids _ hm) ha o (BS (λh=>J.right h) Y);have K:∀{i:Nat}{a:E},e.k[i]?=some a->BC (e.k.map (Dt d C p vals)) i=Dt d C p vals a:=λh=>Kl h;have b0:∀{v:Int},v=0∨v=1->AX d s.mm Ay v:=λh=>C6.2 h;cases kindX (sc:=AA d p) rfl hv ht with
 |int h hn=>rw[Ib (.inl h)];exact(AO.ok G (Cw.2 (by omega))).le (by omega)
 |bool h hn=>rw[Ib (.inr h)];exact(AO.ok G (C6.2 (by omega))).le (by omega)
 |nil h hn=>rw[LZ h];exact(AO.ok G (by rfl)).le (by omega)
 |var h hl hne=>
  rw[L8 h];rcases Ho G Y hpo.vars hl hne with⟨i,f,v,-,-,-,-,A,h6⟩|⟨i,f,v,-,-,-,-,-,A,h6⟩;.rw[h6];exact(AO.ok G A).le (by omega)
  .rw[h6];exact⟨⟨G.valid,G.chk,G.mem⟩,(gr_note (by omega) (by omega) (by omega)).le (by omega),λ_ _ e=>by cases e;exact A⟩
 |@fld _ u a h hk ha hf=>
  rw[Km h,K (i:=0) (by rw[hk];rfl),hk];refine((I (by rw[hk];simp) ha G (Gr.refl s)).bind (m:=1) λv Z _ H o J=>?_).le (by simp<;>omega);unfold fldX;by_cases h0:v=0;.rw[if_pos h0];exact(AO.bad o).le (by omega)
  .rw[if_neg h0];obtain⟨q,i,j,tt,f,fs,w,rfl,h2,h3,-,A,h6,h7,h8,U,-⟩:=Ie o hf H h0;rw[show((q:Int)+1-1).toNat=q by omega,h2];simp only;rw[A,h6,wH,h8];exact⟨⟨o.valid,o.chk,o.mem⟩,gr_note (by omega) (by grind) (by omega),λ_ _ e=>by cases e;exact U⟩
 |new h hn=>rw[L9 h];exact(new_snd G hn).le (by omega)
 |@call pr i h hc hr=>
  rw[Ic h,hc.idx];refine((seq_snd e.k pr.params [] [] s G (C8.2 ⟨rfl,λj f v h=>by simp at h⟩) hc.len (Ku hp hc.at_) hc.fit (λa hm u Z n hu o J=>I hm hu o J)).bind (m:=0) λl Z _ hl o J=>?_).le (by omega);exact(D i pr l Z hc.at_ o hl).mono λv s' _ h=>h hr
 |@neg a h hk ha=>
  rw[Kn h,K (i:=0) (by rw[hk];rfl),hk];refine((I (by rw[hk];simp) ha G (Gr.refl s)).bind (m:=0) λv Z _ H o J=>Kt o (Gr.refl Z) λw hw=>Cw.2 (big_ok hw).2).le (by simp<;>omega)
 |@not a h hk ha=>
  rw[cX18 h,K (i:=0) (by rw[hk];rfl),hk];refine((I (by rw[hk];simp) ha G (Gr.refl s)).bind (m:=0) λv Z _ H o J=>AO.ok o ?_).le (by simp<;>omega);grind[C6]
 |@log a h hk ha=>
  rw[cX24 h,K (i:=0) (by rw[hk];rfl),hk];refine((I (by rw[hk];simp) ha G (Gr.refl s)).bind (m:=0) λv Z _ H o J=>AO.ok o ?_).le (by simp<;>omega);have:=log_in (a:=v) (Cw.1 H).2;exact Cw.2 (by omega)
 |@and a b h hk ha hb=>
  rw[cX19 h,K (i:=0) (by rw[hk];rfl),K (i:=1) (by rw[hk];rfl)];refine((I (by rw[hk];simp) ha G (Gr.refl s)).bind (m:=Az b) λv Z _ H o J=>?_).le (by simp_all);split;.exact(AO.ok o (C6.2 (.inl rfl))).le (by omega)
  grind
 |@or a b h hk ha hb=>
  rw[cX20 h,K (i:=0) (by rw[hk];rfl),K (i:=1) (by rw[hk];rfl)];refine((I (by rw[hk];simp) ha G (Gr.refl s)).bind (m:=Az b) λv Z _ H o J=>?_).le (by simp_all);split;.grind
  .exact(AO.ok o (C6.2 (.inr rfl))).le (by omega)
 |@cond a b c _ u w h hk ha hb hc hu hw _=>
  rw[cX21 h,K (i:=0) (by rw[hk];rfl),K (i:=1) (by rw[hk];rfl),K (i:=2) (by rw[hk];rfl)];refine((I (by rw[hk];simp) ha G (Gr.refl s)).bind (m:=Az b+Az c) λv Z _ H o J=>?_).le (by simp_all);split
  .exact((I (by rw[hk];simp) hc o J).mono λv s' _ h=>by
    rcases hw with rfl|hw;.exact h
    .exact Ey G.valid hw h).le (by omega)
  .exact((I (by rw[hk];simp) hb o J).mono λv s' _ h=>by
    rcases hu with rfl|hu;.exact h
    .exact Ey G.valid hu h).le (by omega)
 |@eq a b u w h hk ha hb _=>
  rw[FG (by omega),K (i:=0) (by rw[hk];rfl),K (i:=1) (by rw[hk];rfl)];refine((I (by rw[hk];simp) ha G (Gr.refl s)).bind (m:=Az b+1) λv Z _ H o J=>(I (by rw[hk];simp) hb o J).bind (m:=1) λz X _ O L B=>Kt (Mc L) gr_cnt λx R=>C6.2 (J8 (by omega) R)).le (by grind)
 |@cmp a b h hk ha hb=>
  rw[FG (by omega),K (i:=0) (by rw[hk];rfl),K (i:=1) (by rw[hk];rfl)];refine((I (by rw[hk];simp) ha G (Gr.refl s)).bind (m:=Az b+1) λv Z _ H o J=>(I (by rw[hk];simp) hb o J).bind (m:=1) λz X _ O L B=>Kt (Mc L) gr_cnt λx R=>C6.2 (J8 (by omega) R)).le (by grind)
 |@ari a b h hk ha hb=>
  rw[FG (by omega),K (i:=0) (by rw[hk];rfl),K (i:=1) (by rw[hk];rfl)];refine((I (by rw[hk];simp) ha G (Gr.refl s)).bind (m:=Az b+1) λv Z _ H o J=>(I (by rw[hk];simp) hb o J).bind (m:=1) λz X _ O L B=>Kt (Mc L) gr_cnt λx R=>Cw.2 (two_ok h (Cw.1 H) (Cw.1 O) R)).le (by grind)
end
section
variable{d:Ds}{F:Nat}
theorem Gf{e:E}(h:Bh e=true):VE e/\Az e<=1000:=⟨VE.of_valid h,(of_decide_eq_true h).2⟩
def RtOk(d:Ds)(p:Pr)(r:Rt)(s:St):Prop:=AE d s.mm p.vars r.1=true/\∀v,r.2=some v->p.result≠sE->AX d s.mm p.result v
def SSnd(d:Ds)(F:Nat)(Sn:Sf):Prop:=∀c p l vals s,DG d p->(∀x∈l,DO d p x)->An d s.mm->AE d s.mm p.vars vals=true->AO d F 0 s (Sn c p l vals s) λr s'=>RtOk d p r s'
theorem Hp(hp:∀p∈d.procs,DG d p){Sn:Sf}(hS:SSnd d F Sn)(c:Nat):CSnd d F (Ck d Sn c):=by
 intro i pr args s o G ha;unfold Ck;split;.exact AO.bad G
 rw[wH,o];simp only;have hpo:=hp pr (xw o);refine(hS (c+1) pr pr.body _ s hpo hpo.body G (I2 ha (Kr G.valid λf hf=>hpo.vars f (uE _ hf)))).bind (m:=0) λr J _ hr H Z=>AO.ok H λhne=>?_;cases h:r.2 with
 |some v=>exact hr.2 v h hne
 |none=>
  have hk:=hpo.res.resolve_left hne;exact(Fb G.valid hk).2 (NS G.valid hk)
theorem Gr.tick{n:Nat}{s s':St}(h:Gr F n {s with tk:=s.tk+1} s')(hn:n<=4000)(o:s.tk<F):Gr F 0 s s':=
 ⟨h.ty,yr (Nat.le_succ _) h.tk,λ_=>h.fu o,h.lg,by have h:=h.w;grind,h.tr⟩
theorem AO.tick{α:Type}{n:Nat}{s:St}{f:Unit->St->Rx α}{Q:α->St->Prop}(G:An d s.mm)(h:An d ({s with tk:=s.tk+1}:St).mm->AO d F n {s with tk:=s.tk+1} (f () {s with tk:=s.tk+1}) Q)(hn:n<=4000):AO d F 0 s ((Eh F s).bind f) Q:=by
 unfold Eh;split;.exact AO.bad G
 .rename_i o;have H:=h ⟨G.valid,G.chk,G.mem⟩;exact⟨H.good,H.gr.tick hn (by omega),H.q⟩
section
variable{Sn:Sf}{c:Nat}{p:Pr}(hp:∀p∈d.procs,DG d p)(hS:SSnd d F Sn)(hpo:DG d p)
include hp hS hpo
theorem Gg{vals:XZ}{e:E}{t:KB}{s:St}(hv:Bh e=true)(ht:Ao d (AA d p) e=(t,0))(G:An d s.mm)(o:AE d s.mm p.vars vals=true):AO d F 1000 s (CH d Sn c p vals e s) λv s'=>AX d s'.mm t v:=
 (If hp (Hp hp hS c) hpo e t s (Gf hv).1 ht G o).le (Gf hv).2
theorem wh_snd{cond:E}{body:XK}(hv:Bh cond=true)(ht:Ao d (AA d p) cond=(Ay,0))(hb:∀x∈body,DO d p x):∀(n:Nat)(vals:XZ)(s:St),An d s.mm->AE d s.mm p.vars vals=true->AO d F 1000 s (Ei d F Sn c p cond body n vals s) λr s'=>RtOk d p r s'
 |0,vals,s,G,_=>by unfold Ei;exact(AO.bad G).le (by omega)
 |n+1,vals,s,G,o=>by
  rw[Ei];refine((Gg hp hS hpo hv ht G o).bind (m:=0) λv Y _ _ H O=>?_).le (by omega);have J:=BS (λh=>O.right h) o;split;.exact AO.ok H ⟨J,λ_ h=>by cases h⟩
  .refine((hS c p body vals Y hpo hb H J).bind (m:=0) λr I _ hr Z L=>?_).le (by omega);split;.exact AO.ok Z hr
   .exact AO.tick (n:=1000) Z (λA=>wh_snd hv ht hb n r.1 _ A hr.1) (by omega)
theorem body_snd{n:Nat}{x:S}(D:DO d p x){vals:XZ}{s:St}(G:An d s.mm)(o:AE d s.mm p.vars vals=true):AO d F 2001 s (Fj d F Sn c p n x vals s) λr s'=>RtOk d p r s':=by
 unfold Fj;obtain⟨p1,p2,p3,p4,p5⟩:=BR G.mem;cases kindS D with
 |@set e u t h he hv ht hl hne hf=>
  rw[if_pos h,he,uF];refine((Gg hp hS hpo hv ht G o).bind (m:=1) λv H _ Z J Y=>?_).le (by omega);have A:=BS (λh=>Y.right h) o;have I:=Ey G.valid hf Z;unfold setX;rcases Ho J A hpo.vars hl hne with⟨i,f,w,q1,K,q3,q4,-⟩|⟨i,f,w,q0,q1,K,q3,q4,-⟩
  .rw[if_pos (by omega),q1,wH];have hr:AW d H.mm f.ty v=true:=(Fb G.valid (hpo.vars f (xw K))).1 (q4▸I);exact(AO.ok J ⟨Mb A K hr,λ_ h=>by cases h⟩).le (by omega)
  .rw[if_neg (by omega),q1,wH];obtain⟨o1,o2,o3,o4,o5⟩:=BR J.mem;have hr:AW d H.mm f.ty v=true:=(Fb G.valid (yK.1 (Fc o1).1 f (xw K))).1 (q4▸I);have X:An d ({H with g:=H.g.set i v,lg:=H.lg++[(2,0,(i:Int))]}:St).mm:=⟨G.valid,G.chk,Ks o1 o2 o3 (Mb (m:=H.mm) (vs:=H.g) o4 K hr) o5⟩;exact⟨X,⟨λ_ x h=>⟨x,h,rfl⟩,yu _,λh=>h,⟨[_],rfl,.acc (.inr rfl) (by omega) (by omega) (by omega) (.nil _),λh=>(by simp_all)⟩,by show(H.lg++[_]).length+_+_<=_;rw[zK,zL];show H.lg.length+1+H.cm+4000*H.tk<=H.lg.length+H.cm+1+4000*H.tk;omega,⟨[_],rfl,.wg (yg.1 q3).1 (.nil _)⟩⟩,λ_ _ e=>by cases e;exact⟨A,λ_ h=>by cases h⟩⟩
 |@put a e u w t h he hv hw ha ht hl hf=>
  rw[if_neg (by omega),if_pos h,he,uF,uG,uF];refine((Gg hp hS hpo hv ha G o).bind (m:=1001) λx1 H _ Z J Y=>?_).le (by omega);have A:=BS (λh=>Y.right h) o;refine((Gg hp hS hpo hw ht J A).bind (m:=1) λx2 O _ I X g2=>?_).le (by omega);have v2:=BS (λh=>g2.right h) A;have ha2:=g2.val Z;unfold putX;by_cases h0:x1=0;.rw[if_pos h0];exact(AO.bad X).le (by omega)
  rw[if_neg h0];obtain⟨q,i,j,tt,f,fs,y,rfl,T,e3,e4,e5,e6,e7,e8,e9,U,e11⟩:=Ie X hl ha2 h0;rw[show((q:Int)+1-1).toNat=q by omega,T];simp only;rw[e5,e6,wH];obtain⟨o1,o2,o3,o4,o5⟩:=BR X.mem;have hr:AW d O.mm f.ty x2=true:=(Fb G.valid (U▸e11)).1 (U▸Ey G.valid hf I);have hql:=(yg.1 T).1;obtain⟨B,L⟩:∃B:St,B={O with ns:=O.ns.set q ((j:Int),fs.set i x2),lg:=O.lg++[(2,(q:Int)+1,(i:Int))]}:=⟨_,rfl⟩;have g3:Gr F 1 O B:=by
   rw[L];refine⟨λk x hk=>?_,yu _,λh=>h,⟨[_],rfl,.acc (.inr rfl) (by omega) (by omega) (by omega) ?_,λh=>(by simp_all)⟩,?_,⟨[_],rfl,.wf T (yg.1 e8).1 (.nil _)⟩⟩;.grind
   .grind[LgOk,uK]
   grind
  have hn3:B.mm.nodes=O.mm.nodes.set q ⟨(j:Int),Ah,fs.set i x2⟩:=by rw[L];simp[St.mm,uO]
  have G3:An d B.mm:=by
   refine⟨G.valid,G.chk,Ks o1 ?_ (λn hm=>?_) ?_ λn hm=>?_⟩;.simp_all
   .rw[hn3]at hm;rcases uQ hm with hm|rfl;.exact o3 n hm
    .exact o3 (⟨(j:Int),Ah,fs⟩) (xw (i:=q) (by rw[I1,T];rfl))
   .have:B.mm.globals=O.mm.globals:=by rw[L];rfl
    rw[this];exact BS (λh=>g3.right h) o4
   .rw[hn3]at hm;rcases uQ hm with hm|rfl;.exact BS (λh=>g3.right h) (o5 n hm)
    .have:=o5 (⟨(j:Int),Ah,fs⟩) (xw (i:=q) (by rw[I1,T];rfl));have this:AE d O.mm (B3 d (j:Int)) fs=true:=this;show AE d B.mm (B3 d (j:Int)) (fs.set i x2)=true;rw[e5]at this⊢;exact BS (λh=>g3.right h) (Mb this e7 hr)
  rw[<-L];exact⟨G3,g3,λ_ _ e=>by cases e;exact⟨BS (λh=>g3.right h) v2,λ_ h=>by cases h⟩⟩
 |@cond e h he hv ht=>
  rw[if_neg (by omega),if_neg (by omega),if_pos h,he,uF];refine((Gg hp hS hpo hv ht G o).bind (m:=0) λv H _ Z J Y=>?_).le (by omega);have A:=BS (λh=>Y.right h) o;obtain⟨-,-,-,hl,D⟩:=D.parts;split;.exact hS c p _ vals H hpo D J A
  .exact hS c p _ vals H hpo hl J A
 |@loop e h he hv ht=>
  rw[if_neg (by omega),if_neg (by omega),if_neg (by omega),if_pos h,he,uF];exact(wh_snd hp hS hpo hv ht D.parts.2.2.2.1 n vals s G o).le (by omega)
 |ret0 h he hr=>
  rw[if_neg (by omega),if_neg (by omega),if_neg (by omega),if_neg (by omega),if_pos h,he];exact(AO.ok G ⟨o,λ_ _ k=>absurd hr k⟩).le (by omega)
 |@ret1 e u h he hv ht hr hf=>
  rw[if_neg (by omega),if_neg (by omega),if_neg (by omega),if_neg (by omega),if_pos h,he];refine((Gg hp hS hpo hv ht G o).bind (m:=0) λv H _ Z J Y=>?_).le (by omega);exact AO.ok J ⟨BS (λh=>Y.right h) o,λw h _=>by cases h;exact Ey G.valid hf Z⟩
 |@call e pr i h he hv ho hc=>
  rw[if_neg (by omega),if_neg (by omega),if_neg (by omega),if_neg (by omega),if_neg (by omega),if_pos h,he,uF];unfold CH;rw[Ia,Ic ho,hc.idx];have hV:=(Gf hv).1;have hsz:=(Gf hv).2;rw[szE_eq]at hsz;refine(((seq_snd e.k pr.params [] [] s G (C8.2 ⟨rfl,λj f v h=>by simp at h⟩) hc.len (Ku hp hc.at_) hc.fit (λa hm u H n hu J Y=>If hp (Hp hp hS c) hpo a u H (hV.kids a hm) hu J (BS (λh=>Y.right h) o))).bind (m:=0) λl H _ hl J Y=>?_).bind (m:=0) (Q:=λ_ s'=>AE d s'.mm p.vars vals=true) λ_ O _ hq X g2=>AO.ok X ⟨hq,λ_ h=>by cases h⟩).le (by omega);have R:=Hp hp hS c i pr l H hc.at_ J hl;refine⟨R.good,R.gr,λv O e=>?_⟩;have:=BS (λh=>R.gr.right h) (BS (λh=>Y.right h) o);rw[e]at this;exact this
theorem st_snd{n:Nat}{x:S}(H:DO d p x){vals:XZ}{s:St}(G:An d s.mm)(o:AE d s.mm p.vars vals=true):AO d F 0 s (Dx d F Sn c p n x vals s) λr s'=>RtOk d p r s':=by
 unfold Dx;exact AO.tick (n:=2001) G (λJ=>body_snd hp hS hpo H J o) (by omega)
end
theorem list_snd{p:Pr}{f:S->XZ->St->Rx Rt}:∀(l:XK)(vals:XZ)(s:St),(∀x∈l,∀vals s,An d s.mm->AE d s.mm p.vars vals=true->AO d F 0 s (f x vals s) λr s'=>RtOk d p r s')->An d s.mm->AE d s.mm p.vars vals=true->AO d F 0 s (D5 f l vals s) λr s'=>RtOk d p r s'
 |[],vals,s,_,G,hv=>by unfold D5;exact AO.ok G ⟨hv,λ_ h=>by cases h⟩
 |x::l,vals,s,H,G,hv=>by
  rw[D5];refine(H x yI vals s G hv).bind (m:=0) λr J _ hr o Y=>?_;split;.exact AO.ok o hr
  .exact list_snd l r.1 J (λy Z=>H y (yJ _ Z)) o hr.1
theorem FH(hp:∀p∈d.procs,DG d p):∀n,SSnd d F (AU d F n)
 |0=>λ_ _ _ _ _ _ _ G _=>AO.bad G
 |n+1=>λc p l vals s hpo hl G hv=>list_snd l vals s (λ_ o _ _ G hv=>st_snd hp (FH hp n) hpo (hl _ o) G hv) G hv
theorem play_snd(hp:∀p∈d.procs,DG d p){i:Nat}{pr:Pr}{args:XZ}{s:St}(h:d.procs[i]?=some pr)(G:An d s.mm)(ha:AE d s.mm pr.params args=true):AO d F 0 s (CX d F i args s) λv s'=>pr.result≠sE->AX d s'.mm pr.result v:=
 Hp hp (FH hp (F+1)) 0 i pr args s h G ha
end
attribute [local irreducible] Go.Sx.Tri
section
variable{V0 V V':Mem}{e:TypeId}{sz:Nat}{s:Sl}{vs:XV}
theorem Own.storec(h:Sx.Own V0 V e sz s vs){i:Nat}(hi:i<vs.length){v:Value}{q:Mem->Prop}(Y:∀V',Sx.Own V0 V' e sz s (vs.set i v)->(∀c,¬A4 s c->V' c=V c)->q V'):Am (Aa s.p i) 0 [v] V q:=by
 rcases h.cases0 with⟨h1,h2,H⟩|⟨hc,g,cur,h1,h2,H,Z,O,h6,h7⟩;.rw[H]at hi;simp at hi
 have o:=h.len;have A:s.n*sz<=s.c*sz:=xK _ Z;rw[h1];refine Am.at2 (off:=i) H (by simp;omega) (Y _ ⟨h.sub.set h2 _,by simpa using o,.inr ⟨g,_,h1,h2,Mem.set_same _ _ _,Z,O,?_,?_⟩⟩ λc J=>?_);.grind
 .grind[H9,List.take_set]
 .rw[Mem.set_ne];rintro rfl;exact J ⟨hc,h1⟩
theorem Own.moveB(h:Sx.Own V0 V e sz s vs)(H:V0.sub V')(hk:∀g o,A4 s g->V g=some (.cells o e (0,0))->V' g=some (.cells o e (0,0))):Sx.Own V0 V' e sz s vs:=⟨H,h.len,by
 rcases h.cases0 with h1|⟨hc,g,o,h1,h2,J,Z⟩;.exact .inl h1
 .exact .inr ⟨g,o,h1,h2,hk g o ⟨hc,h1⟩ J,Z⟩⟩
theorem Own.some(h:Sx.Own V0 V e sz s vs){c:Nat}(hc:A4 s c):∃o,V c=some (.cells o e (0,0)):=by
 rcases h.cases0 with⟨-,h2,-⟩|⟨-,g,o,h1,h2,H,-⟩;.exact absurd h2 hc.1
 .have:=h1.symm.trans hc.2;simp_all
theorem Own.none0(h:Sx.Own V0 V e sz s vs){c:Nat}(hc:A4 s c):V0 c=none:=by
 rcases h.cases0 with⟨-,h2,-⟩|⟨-,g,cur,h1,h2,o,-⟩;.exact absurd h2 hc.1
 .have:=h1.symm.trans hc.2;simp_all
theorem set_sub2{A B:Mem}(h:A.sub B)(b:Nat)(o:Obj):(A.set b o).sub (B.set b o):=λc x hc=>by
 by_cases e:c=b;.grind[Mem.set_same]
 .rw[Mem.set_ne e]at hc⊢;exact h _ _ hc
theorem Own.poke(h:Sx.Own V0 V e sz s vs){b:Nat}(hb:V0 b≠none)(o:Obj):Sx.Own (V0.set b o) (V.set b o) e sz s vs:=⟨set_sub2 h.sub b o,h.len,by
 rcases h.cases0 with h1|⟨hc,g,cur,h1,h2,H,J⟩;.exact .inl h1
 .have hne:g≠b:=λe=>hb (e▸h2);simp_all[inr,Mem.set_ne]⟩
end
def Ig(a:Int×Int×Int):XV:=[uI a.1,uI a.2.1,uI a.2.2]
theorem app128:AppP 128 188 3 Ig:=appG Tryz.underlying128 (by kernel_rfl) (by kernel_rfl) (by kernel_rfl) (by kernel_rfl) (by kernel_rfl) (by decide) (by intro _;rfl) λx u hu=>by simp only[Ig,zJ,xT,or_false]at hu;rcases hu with rfl|rfl|rfl<;>rfl
theorem C9(l:XZ):l.flatMap Aw=l.map (vP .i64):=by
 induction l with
 |nil=>rfl
 |cons a l o=>rw[xG,o];rfl
structure AK (V0 V:Mem)(gs ns ls:Sl)(nd:XH)(st:St):Prop where
 glob:Sx.Own V0 V 3 1 gs (st.g.flatMap Aw)
 nodes:Sx.Own V0 V 121 2 ns (nd.flatMap Nd.row)
 log:Sx.Own V0 V 188 3 ls (st.lg.flatMap Ig)
 fld:∀n∈nd,Sx.Own V0 V 3 1 n.sl (n.f.flatMap Aw)
 eq:nd.map (λn=>(n.ty,n.f))=st.ns
 gf:∀n∈nd,∀c,A4 n.sl c->¬A4 gs c
 ff:∀(i j:Nat) n n' c,nd[i]?=some n->nd[j]?=some n'->A4 n.sl c->A4 n'.sl c->i=j
section
variable{V0 V V':Mem}{gs ns ls:Sl}{nd:XH}{st:St}
def Alien(V:Mem)(c:Nat):Prop:=∀o t,t=3∨t=121∨t=188->V c≠some (.cells o t (0,0))
theorem AK.sub(L:AK V0 V gs ns ls nd st):V0.sub V:=L.glob.sub
theorem AK.move(L:AK V0 V gs ns ls nd st)(Z:V0.sub V')(hk:∀c o,V c=some o->V0 c=none->¬Alien V c->V' c=some o):AK V0 V' gs ns ls nd st:=by
 have H:∀{e sz s vs},(e=3∨e=121∨e=188)->Sx.Own V0 V e sz s vs->Sx.Own V0 V' e sz s vs:=λ{e sz s vs} he h=>Own.moveB h Z λg Y hb J=>hk _ _ J (Own.none0 h hb) λha=>ha _ _ he J;exact⟨H (.inl rfl) L.glob,H (.inr (.inl rfl)) L.nodes,H (.inr (.inr rfl)) L.log,λn hn=>H (.inl rfl) (L.fld n hn),L.eq,L.gf,L.ff⟩
theorem AK.grow(L:AK V0 V gs ns ls nd st)(h:V.sub V'):AK V0 V' gs ns ls nd st:=L.move (L.sub.trans h) λc o hc _ _=>h _ _ hc
theorem AK.put(L:AK V0 V gs ns ls nd st){c:Nat}(ha:Alien V c)(h0:V0 c=none)(o:Obj):AK V0 (V.set c o) gs ns ls nd st:=L.move (L.sub.set h0 o) λx J Z _ H=>by
 grind[Mem.set_ne]
theorem AK.narrow{W:Mem}(L:AK W V gs ns ls nd st)(h:V0.sub W):AK V0 V gs ns ls nd st:=⟨L.glob.narrow h,L.nodes.narrow h,L.log.narrow h,λn hn=>(L.fld n hn).narrow h,L.eq,L.gf,L.ff⟩
theorem AK.poke(L:AK V0 V gs ns ls nd st){b:Nat}(hb:V0 b≠none)(o:Obj):AK (V0.set b o) (V.set b o) gs ns ls nd st:=⟨Own.poke L.glob hb o,Own.poke L.nodes hb o,Own.poke L.log hb o,λn hn=>Own.poke (L.fld n hn) hb o,L.eq,L.gf,L.ff⟩
def Mine(p:Nat)(gs ns ls:Sl)(nd:XH)(c:Nat):Prop:=c=p∨A4 gs c∨A4 ns c∨A4 ls c∨∃n∈nd,A4 n.sl c
open Classical in
noncomputable def Mem.minus(V:Mem)(M:Nat->Prop):Mem:=λc=>if M c then none else V c
theorem Kv{M:Nat->Prop}:(Mem.minus V M).sub V:=λc o h=>by
 grind[Mem.minus]
theorem GP{M:Nat->Prop}{c:Nat}(h:¬M c):Mem.minus V M c=V c:=by grind[Mem.minus]
theorem I3{M:Nat->Prop}{c:Nat}(h:M c):Mem.minus V M c=none:=by grind[Mem.minus]
theorem AK.frame(L:AK V0 V gs ns ls nd st){p:Nat}(hk:∀c o,Mine p gs ns ls nd c->V c=some o->V' c=some o):AK (Mem.minus V' (Mine p gs ns ls nd)) V' gs ns ls nd st:=by
 have H:∀{e sz s vs},(∀c,A4 s c->Mine p gs ns ls nd c)->Sx.Own V0 V e sz s vs->Sx.Own (Mem.minus V' (Mine p gs ns ls nd)) V' e sz s vs:=λ{e sz s vs} hm h=>⟨Kv,h.len,by
  rcases h.cases0 with h1|⟨hc,g,cur,h1,h2,J,Z⟩;.exact .inl h1
  .exact .inr ⟨g,cur,h1,I3 (hm g ⟨hc,h1⟩),hk _ _ (hm g ⟨hc,h1⟩) J,Z⟩⟩
 exact⟨H (λ_ h=>.inr (.inl h)) L.glob,H (λ_ h=>.inr (.inr (.inl h))) L.nodes,H (λ_ h=>.inr (.inr (.inr (.inl h)))) L.log,λn hn=>H (λ_ h=>.inr (.inr (.inr (.inr ⟨n,hn,h⟩)))) (L.fld n hn),L.eq,L.gf,L.ff⟩
theorem AK.mineV(L:AK V0 V gs ns ls nd st){p c:Nat}(hp:V p≠none)(h:Mine p gs ns ls nd c):V c≠none:=by
 have o:∀{e sz s vs},Sx.Own V0 V e sz s vs->A4 s c->V c≠none:=λ{e sz s vs} h hb=>by
  grind[Own.some]
 rcases h with rfl|h|h|h|⟨n,hn,h⟩;.exact hp
 .exact o L.glob h
 .exact o L.nodes h
 .exact o L.log h
 .exact o (L.fld n hn) h
theorem AK.mine0(L:AK V0 V gs ns ls nd st){p c:Nat}(hp:V0 p=none)(h:Mine p gs ns ls nd c):V0 c=none:=by
 rcases h with rfl|h|h|h|⟨n,hn,h⟩;.exact hp
 .exact Own.none0 L.glob h
 .exact Own.none0 L.nodes h
 .exact Own.none0 L.log h
 .exact Own.none0 (L.fld n hn) h
theorem AK.len(L:AK V0 V gs ns ls nd st):nd.length=st.ns.length:=by rw[<-L.eq,vp]
theorem AK.at_(L:AK V0 V gs ns ls nd st){i:Nat}{x:Int×XZ}(h:st.ns[i]?=some x):∃sl,nd[i]?=some ⟨x.1,sl,x.2⟩:=by
 rw[<-L.eq,xJ]at h;cases hn:nd[i]? with
 |none=>simp_all
 |some n=>rw[hn]at h;cases h;grind
theorem AK.setG(L:AK V0 V gs ns ls nd st){i:Nat}(hi:i<st.g.length){v:Int}{q:Mem->Prop}(J:∀V',AK V0 V' gs ns ls nd {st with g:=st.g.set i v}->(∀c,¬A4 gs c->V' c=V c)->q V'):Am (Aa gs.p (i*1)) 0 [uI v] V q:=by
 rw[Nat.mul_one];refine Own.storec L.glob (by rw[C9,vp];exact hi) λV' ho hk=>J V' ⟨?_,?_,?_,λn hn=>?_,L.eq,L.gf,L.ff⟩ hk;.grind[Aw,C9,uO]
 .exact Own.moveB L.nodes ho.sub λg o hb H=>by rw[hk g (L.glob.apart λc=>by simp_all)];exact H
 .exact Own.moveB L.log ho.sub λg o hb H=>by rw[hk g (L.glob.apart λc=>by simp_all)];exact H
 .exact Own.moveB (L.fld n hn) ho.sub λg o hb H=>by rw[hk g (L.gf n hn g hb)];exact H
theorem AK.setF(L:AK V0 V gs ns ls nd st){k i:Nat}{n:Nd}(hn:nd[k]?=some n)(hi:i<n.f.length){v:Int}{q:Mem->Prop}
  (A:∀V',AK V0 V' gs ns ls (nd.set k {n with f:=n.f.set i v}) {st with ns:=st.ns.set k (n.ty,n.f.set i v)}->(∀c,¬A4 n.sl c->V' c=V c)->q V'):Am (Aa n.sl.p (i*1)) 0 [uI v] V q:=by
 rw[Nat.mul_one];have hm:=xw hn;have I:=(yg.1 hn).1;refine Own.storec (L.fld n hm) (by rw[C9,vp];exact hi) λV' ho hk=>A V' ⟨?_,?_,?_,λn' H=>?_,?_,λn' H c hc=>?_,λR X a b c ha hb Y O=>?_⟩ hk;.exact Own.moveB L.glob ho.sub λg J hb Z=>by rw[hk g λh=>L.gf n hm g h hb];exact Z
 .have:(nd.set k {n with f:=n.f.set i v}).flatMap Nd.row=nd.flatMap Nd.row:=by
   have:(nd.set k {n with f:=n.f.set i v}).map Nd.row=nd.map Nd.row:=by
    rw[uO];refine zf λm=>?_;rw[uR];split
    .rename_i e;subst e;rw[xJ,hn,if_pos (by simp_all)];rfl
    .rfl
   grind
  rw[this];exact Own.moveB L.nodes ho.sub λg J hb Z=>by rw[hk g ((L.fld n hm).apart λc=>by simp_all)];exact Z
 .exact Own.moveB L.log ho.sub λg J hb Z=>by rw[hk g ((L.fld n hm).apart λc=>by simp_all)];exact Z
 .obtain⟨m,o⟩:=uJ.1 H;rw[uR]at o;split at o;.grind[Aw,C9,uO]
  .rename_i hne;exact Own.moveB (L.fld n' (xw o)) ho.sub λg J hb Z=>by rw[hk g λh=>hne (L.ff k m n n' g hn o h hb)];exact Z
 .rw[<-L.eq,uO]
 .rcases uQ H with h|rfl;.exact L.gf n' h c hc
  .exact L.gf n hm c hc
 .have get:∀{m:Nat}{x:Nd},(nd.set k {n with f:=n.f.set i v})[m]?=some x->∃y,nd[m]?=some y/\y.sl=x.sl:=λ{m x} U=>by
   grind
  obtain⟨y,B,D⟩:=get ha;obtain⟨z,K,T⟩:=get hb;exact L.ff R X y z c B K (D▸Y) (T▸O)
theorem AK.note(L:AK V0 V gs ns ls nd st){a:Int×Int×Int}{ty Y:Nat}{x y:Operand}{vals:Operand->Value}{q:Value->Mem->Prop}(O:V Y=none)(I:vals x=uL ls)(R:vals y=.slice (sa Y) 1 1)(H:st.lg.length+1<=2147483648)
  (X:∀s' V',AK V0 V' gs ns s' nd (st.note a)->(∀c o,V c=some o->¬A4 ls c->V' c=some o)->q (.slice s'.p s'.n s'.c) V'):
  GenK xV (.call {callee:=.builtin .append,args:=#[x,y],argTypes:=#[128,128]}) ty vals (V.set Y (.cells (Ig a).toArray 188 (0,0))) q:=by
 refine app128 (s:=ls) (u:=⟨some ⟨Y,0,none⟩,1,1⟩) (xs:=st.lg) (ys:=[a]) I R (L.log.but.new O _) (Ae.cells (xs:=[a]) (row:=Ig) Av (by simp) (λ_=>rfl) rfl (by simp)) (by simpa using H) λs' V' ho=>?_;have hk:∀c o,V c=some o->¬A4 ls c->V' c=some o:=λc o hc hb=>ho.sub _ _ (Mem.but_at hc hb);have A:V0.sub V':=L.log.sub_but.trans ho.sub;refine X s' V' ⟨?_,?_,ho.narrow L.log.sub_but,λn hn=>?_,L.eq,L.gf,L.ff⟩ hk;.exact Own.moveB L.glob A λg J hb Z=>hk _ _ Z (L.log.apart λc=>by simp_all)
 .exact Own.moveB L.nodes A λg J hb Z=>hk _ _ Z (L.log.apart λc=>by simp_all)
 .exact Own.moveB (L.fld n hn) A λg J hb Z=>hk _ _ Z (L.log.apart λc=>by simp_all)
theorem AK.new(L:AK V0 V gs ns ls nd st){n:Nd}{V1:Mem}(H:Sx.Own V V1 3 1 n.sl (n.f.flatMap Aw))
  {ty I:Nat} {x y:Operand} {vals:Operand->Value} {q:Value->Mem->Prop} (X:V1 I=none) (K:vals x=uL ns) (T:vals y=.slice (sa I) 1 1) (O:nd.length+1<=2147483648)
  (U:∀s' V',AK V0 V' gs s' ls (nd++[n]) {st with ns:=st.ns++[(n.ty,n.f)]}->(∀c o,V1 c=some o->¬A4 ns c->V' c=some o)->q (.slice s'.p s'.n s'.c) V'):
  GenK xV (.call {callee:=.builtin .append,args:=#[x,y],argTypes:=#[32,32]}) ty vals (V1.set I (.cells n.row.toArray 121 (0,0))) q:=by
 have s1:V.sub V1:=H.sub;have Z:=L.grow s1;refine app32 (s:=ns) (u:=⟨some ⟨I,0,none⟩,1,1⟩) (xs:=nd) (ys:=[n]) K T (Z.nodes.but.new X _) (Ae.cells (xs:=[n]) (row:=Nd.row) Av (by simp) (λ_=>rfl) rfl (by simp)) (by simpa using O) λs' V' ho=>?_;have hk:∀c o,V1 c=some o->¬A4 ns c->V' c=some o:=λc o hc hb=>ho.sub _ _ (Mem.but_at hc hb);have R:V0.sub V':=Z.nodes.sub_but.trans ho.sub;have hn0:∀c,A4 n.sl c->V c=none:=λc hc=>Own.none0 H hc;refine U s' V' ⟨?_,ho.narrow Z.nodes.sub_but,?_,λm hm=>?_,by rw[yY,L.eq];rfl,λm hm c hc=>?_,λi j a b c ha hb B D=>?_⟩ hk;.exact Own.moveB Z.glob R λg J hb Y=>hk _ _ Y (Z.nodes.apart λc=>by simp_all)
 .exact Own.moveB Z.log R λg J hb Y=>hk _ _ Y (Z.nodes.apart λc=>by simp_all)
 .rcases vc.1 hm with hm|hm;.exact Own.moveB (Z.fld m hm) R λg J hb Y=>hk _ _ Y (Z.nodes.apart λc=>by simp_all)
  .rw[zZ.1 hm];exact Own.moveB (H.narrow L.sub) R λg J hb Y=>hk _ _ Y (Z.nodes.apart λc=>by simp_all)
 .rcases vc.1 hm with hm|hm;.exact L.gf m hm c hc
  .rw[zZ.1 hm]at hc;intro Y;obtain⟨J,A⟩:=Own.some L.glob Y;simp_all
 .have old:∀{m:Nd},m∈nd->A4 m.sl c->¬A4 n.sl c:=λhm hc hc'=>by
   obtain⟨J,A⟩:=Own.some (L.fld _ hm) hc;simp_all
  by_cases h1:i<nd.length<;>by_cases h2:j<nd.length
  .rw[uN h1]at ha;rw[uN h2]at hb;exact L.ff i j a b c ha hb B D
  .grind
  .grind
  grind
end
end Go.Proofs
namespace Go.Sx
open Go
section
variable{P:Program}{V0 V:Mem}{t e ty tc:TypeId}{i:TypeInfo}{z:Value}{sz:Nat}{k:IntKind}
theorem Ax.made{V:Mem}{w:World}(hw:V.le w)(o:Obj):V w.heap.size=none/\Ax V w (V.set w.heap.size o) (w.alloc o):=by
 have hn:V w.heap.size=none:=by
  cases h:V w.heap.size with
  |none=>rfl
  |some x=>
   have:=(yN.1 (hw _ _ h)).1;omega
 refine⟨hn,⟨by simp,λb x hb=>?_,λb hb _=>(by grind[heap_alloc_old]),λb hb=>?_,rfl,rfl⟩⟩
 .unfold Mem.set at hb;split at hb;.grind[heap_alloc_new]
  .have H:=(yN.1 (hw _ _ hb)).1;first|exact(heap_alloc_old w o b H).trans (hw _ _ hb)|exact(heap_alloc_old w o H).trans (hw _ _ hb)
 grind[Mem.set,inr]
theorem GenK.make(ht:P.underlying t=some (.slice e))(hi:P.info? e=some i)(J:i.zero=some z)(o:i.size=sz)(H:i.bytes<=65536){x y:Operand}{vals:Operand->Value}{n:Nat}(Z:vals x=.int .i64 n)(Y:vals y=.int .i64 n)(hn:n<=2147483648){q:Value->Mem->Prop}
  (O:∀g,V g=none->q (.slice (some ⟨g,0,none⟩) n n) (V.set g (.cells (madeCells z.cells (n*sz)) e (0,0)))):GenK P (.makeSlice t x y) ty vals V q:=by
 intro w hw;subst o;have hb:(i.bytes:Int)*(n:Int)<=281474976710656:=by
  have:i.bytes*n<=65536*2147483648:=vA H hn;omega
 have hr:=run_make (P:=P) w t e i z ht hi J .i64 .i64 n n (by omega) (vg _) hb (by omega);grind[wH,Ax.made,madeCells,execOp,Sem.run_bind,Sem.run_pure,zW]
theorem zeros_one(o:z.cells.size=sz)(h1:∀u∈z.cells.toList,u.oneCell'=true)(n:Nat)(h0:0<sz):∀u∈(xQ z.cells n).toList,u.oneCell'=true:=λu hu=>by
 unfold xQ at hu;simp only[Array.toList_map,vk]at hu;obtain⟨j,-,rfl⟩:=hu;grind[Nat.mod_lt]
theorem QA{w:World}(ht:P.underlying t=some (.slice e))(hc:P.underlying tc=some (.int k))(hi:P.info? e=some i)(I:i.zero=some z)(h0:0<i.size)(Y:z.cells.size=i.size)(h1:∀u∈z.cells.toList,u.oneCell'=true)
  (g o H:Nat) (J:XQ) (L:w.heap[g]?=some (.cells J e (0,0))) (n:Nat) (hn:0<n) (hb:n*i.bytes<=281474976710656) (R:n<=2147483648) (Z:o+n<=H) (A:o*i.size+n*i.size<=J.size):
  (xM #[t,tc] ty #[.slice (some ⟨g,0,none⟩) o H,.int .i64 n]).run P w=
   .ok (.slice (some ⟨g,0,none⟩) (o+n) H) (w.setRow g (J.toList.take (o*i.size)++(xQ z.cells n).toList++J.toList.drop (o*i.size+(xQ z.cells n).toList.length)).toArray):=by
 have hl:(xQ z.cells n).toList.length=n*i.size:=by rw[uT,size_zeroCells,Y]
 have O:=run_storeCells_at P g (o*i.size) e (xQ z.cells n).toList 0 J w L (by omega) (zeros_one Y h1 n h0);simp only[Nat.add_zero]at O;have X:ye.wrap (n:Int)=n:=by rw[uU];omega
 have B:¬((n:Int)<0):=by omega
 have D:¬(281474976710656<(n:Int)*(i.bytes:Int)):=by
  omega
 have K:¬(n*i.size=0):=Nat.ne_of_gt (Nat.mul_pos hn h0);simp[xM,run_underlying ht,run_underlying hc,asInt,asIntOf,sizeOf,typeInfo,hi,zeroValue,I,X,B,D,Z,Addr.add_lit,O];omega
theorem NU{w:World}(ht:P.underlying t=some (.slice e))(hc:P.underlying tc=some (.int k))(hi:P.info? e=some i)(I:i.zero=some z)(h0:0<i.size)(base:XI)(o H:Nat)(J:XV)
  (hold:(xS i.size o (.slice base o H)).run P w.drew=.ok J.toArray w.drew) (n:Nat) (hn:0<n) (hb:n*i.bytes<=281474976710656) (L:n<=2147483648)
  (K:H<o+n) (R:((o+n:Nat):Int)<=9223372036854775807) (A:uV (o+n) H*i.bytes<=281474976710656):
  (xM #[t,tc] ty #[.slice base o H,.int .i64 n]).run P w=
   .ok (.slice (some ⟨w.heap.size,0,none⟩) (o+n) (grownCap w (o+n) H e))
    (w.drew.alloc (.cells (J.toArray++xQ z.cells n++xQ z.cells (grownCap w (o+n) H e-(o+n))) e)):=by
 have O:¬(o+n<=H):=by omega
 have Z:¬(9223372036854775807<((o:Int)+(n:Int))):=by omega
 have Y:¬(281474976710656<uV (o+n) H*i.bytes):=by omega
 have X:ye.wrap (n:Int)=n:=by rw[uU];omega
 have B:¬((n:Int)<0):=by omega
 have D:¬(281474976710656<(n:Int)*(i.bytes:Int)):=by
  omega
 simp[xM,run_underlying ht,run_underlying hc,asInt,asIntOf,sizeOf,typeInfo,zeroValue,hi,I,X,B,D,O,Z,Y,Question.forced,hold,newRow,grownCap];simp_all[absurd,Nat.ne_of_gt,Nat.mul_pos]
theorem GenK.appendZ(ht:P.underlying t=some (.slice e))(hc:P.underlying tc=some (.int k))(hi:P.info? e=some i)(hz:i.zero=some z)(O:i.size=sz)(A:z.cells.size=sz)(T:0<sz)(U:i.bytes<=65536)(h1:∀u∈z.cells.toList,u.oneCell'=true)
  {x y:Operand} {vals:Operand->Value} {s:Sl} {n:Nat} {vs:XV} (hx:vals x=.slice s.p s.n s.c) (hy:vals y=.int .i64 n) (own:Own V0 V e sz s vs) (R:s.n+n<=2147483648) {q:Value->Mem->Prop}
  (hq:∀s' V',Own V0 V' e sz s' (vs++(xQ z.cells n).toList)->q (.slice s'.p s'.n s'.c) V'):
  GenK P (.call {callee:=.builtin .append,args:=#[x,y],argTypes:=#[t,tc]}) ty vals V q:=by
 intro w hw;subst O;have J:(s.n+n)*i.bytes<=140737488355328:=yr (vA R U) (by decide);have hbn:n*i.bytes<=281474976710656:=by
  grind
 have hl:(xQ z.cells n).toList.length=n*i.size:=by rw[uT,size_zeroCells,A]
 have fin:∀(s':Sl)(V':Mem)(w':World),(xM #[t,tc] ty #[.slice s.p s.n s.c,.int .i64 n]).run P w=.ok (.slice s'.p s'.n s'.c) w'->Ax V w V' w'->Own V0 V' e i.size s' (vs++(xQ z.cells n).toList)->
   ∃v w' V',(execOp vals {dst:=none,op:=.call {callee:=.builtin .append,args:=#[x,y],argTypes:=#[t,tc]},type:=ty,pos:= "",after:=#[],guard:=none}).run P w=.ok (.value v) w'/\Ax V w V' w'/\q v V':=by
  intro s' V' w' hr hf ho;refine⟨_,w',V',?_,hf,hq s' V' ho⟩;unfold execOp;simp only[resolve,invoke,builtin,Sem.run_bind,Sem.run_pure,zW,List.map_toArray,zI,yZ,hx,hy,hr]
 by_cases X:n=0
 .subst X;have hz0:(xQ z.cells 0).toList=[]:=xI (by rw[hl];simp);rw[hz0,vn]at fin;have Z:s.n<=s.c:=by
   rcases own.at_ with⟨a,b,-⟩|⟨g,cur,-,-,-,h,-⟩;.omega
   .exact h
  refine fin s V w ?_ (Ax.refl hw) own;have wl:ye.wrap 0=0:=by rfl
  cases s.p with
  |none=>simp[xM,run_underlying ht,run_underlying hc,asInt,asIntOf,sizeOf,typeInfo,hi,wl,Z]
  |some a=>simp[xM,run_underlying ht,run_underlying hc,asInt,asIntOf,sizeOf,typeInfo,hi,wl,Z,storeCells]
 have hn:0<n:=Nat.pos_of_ne_zero X;have Y:(vs++(xQ z.cells n).toList).length=(s.n+n)*i.size:=by rw[zK,own.len,hl,xH]
 have H:∀old,old<s.n+n->(xM #[t,tc] ty #[.slice s.p s.n s.c,.int .i64 n]).run P w=
   .ok (.slice (some ⟨w.heap.size,0,none⟩) (s.n+n) (grownCap w (s.n+n) old e)) (w.drew.alloc (.cells (vs.toArray++xQ z.cells n++xQ z.cells (grownCap w (s.n+n) old e-(s.n+n))) e))->
   ∃v w' V',(execOp vals {dst:=none,op:=.call {callee:=.builtin .append,args:=#[x,y],argTypes:=#[t,tc]},type:=ty,pos:= "",after:=#[],guard:=none}).run P w=.ok (.value v) w'/\Ax V w V' w'/\q v V':=by
  intro old ho hr;obtain⟨I,hf⟩:=Ax.new hw (.cells (vs.toArray++xQ z.cells n++xQ z.cells (grownCap w (s.n+n) old e-(s.n+n))) e);have hge:=grownCap_ge w (s.n+n) old e;refine fin ⟨_,_,_⟩ _ _ hr hf ⟨Mem.sub.new own.sub I _,Y,.inr ⟨w.heap.size,_,rfl,?_,Mem.set_same _ _ _,hge,grownCap_le_maxLen w _ old e (by simp only[maxLen];omega),?_,?_⟩⟩
  .cases h0:V0 w.heap.size with
   |none=>rfl
   |some x=>rw[own.sub _ _ h0]at I;cases I
  .simp only[Array.size_append,List.size_toArray,size_zeroCells,A,own.len,<-xH];congr 1;show _=grownCap w (s.n+n) old e;omega
  grind
 have hfitN:∀old,old<s.n+n->uV (s.n+n) old*i.bytes<=281474976710656:=λold ho=>growslice_fits (by omega) J;rcases own.at_ with⟨hs,hs',hv⟩|⟨g,cur,hp,hg,hV,Z,B,hcs,L⟩
 .subst hv;refine H s.c (by omega) ?_;have hold:(xS i.size s.n (.slice s.p s.n s.c)).run P w.drew=.ok ([]:XV).toArray w.drew:=by
   rw[hs];cases s.p with
   |none=>rfl
   |some a=>simp[xS,loadCells,loadCellsFrom]
  grind[NU]
 .by_cases o:s.n+n<=s.c
  .have D:w.heap[g]?=some (.cells cur e (0,0)):=hw _ _ hV;have hle:(s.n+n)*i.size<=s.c*i.size:=xK _ o;have hmul:(s.n+n)*i.size=s.n*i.size+n*i.size:=xH _ _ _;have hr:=QA (P:=P) (ty:=ty) ht hc hi hz T A h1 g s.n s.c cur D n hn hbn (by omega) o (by omega);refine fin ⟨some ⟨g,0,none⟩,s.n+n,s.c⟩ _ _ (by rw[hp];exact hr) (Ax.row hw hV) ⟨own.sub.set hg _,Y,.inr ⟨g,_,rfl,hg,Mem.set_same _ _ _,o,B,?_,?_⟩⟩;.grind
   grind
  .refine H s.c (by omega) ?_;have K:w.ownsRow 0 e i.size (.slice s.p s.n s.c) s.n vs:=⟨own.len,.inr ⟨g,s.c,cur,by rw[hp],Nat.zero_le _,hw _ _ hV,Z,B,hcs,L⟩⟩;have holds:∀j u,vs[j]?=some u->w.cell? ((⟨g,0,none⟩:Addr).add j)=some u:=K.cells (g:=g) (by rw[hp];rfl);have hold:=run_firstCells_some (P:=P) w.drew i.size s.n ⟨g,0,none⟩ s.n s.c vs own.len (by simpa using holds);grind[NU,xS]
end
theorem QB(n:Nat):(xQ (vP .i64 0).cells n).toList=zB n (vP .i64 0):=by
 have hc:(vP .i64 0).cells=#[vP .i64 0]:=by rfl
 rw[hc];unfold xQ;refine zf λj=>?_;grind
theorem QC(n:Nat):(madeCells (vP .i64 0).cells n).toList=zB n (vP .i64 0):=by
 have hc:(vP .i64 0).cells=#[vP .i64 0]:=by rfl
 rw[hc];unfold madeCells;refine zf λj=>?_;grind
end Go.Sx
namespace Go.Proofs
open Go Go.Sx
attribute [local irreducible] Go.Sx.Tri
def NT(ty:Nat):Prop:=ty≠3/\ty≠121/\ty≠188
structure MA (ty:Nat)(V0:Mem)(p:Nat)(row:Sl->Sl->Sl->XV)(V:Mem)(s:St):Prop where
 p0:V0 p=none
 ex:∃gs ns ls nd,V p=some (.cells (row gs ns ls).toArray ty (0,0))/\AK V0 V gs ns ls nd s
section
variable{ty:Nat}{V0 V V' W:Mem}{p:Nat}{row row':Sl->Sl->Sl->XV}{s s':St}{gs ns ls:Sl}{nd:XH}
theorem I4{x:XQ}(h:V p=some (.cells x ty (0,0)))(o:NT ty):Alien V p:=λJ t ht H=>by
 rw[h]at H;simp only[Option.some.injEq,Obj.cells.injEq]at H;obtain⟨-,H,-⟩:=H;rcases ht with rfl|rfl|rfl;.exact o.1 H
 .exact o.2.1 H
 .exact o.2.2 H
theorem GQ{x:XQ}(h:V p=some (.cells x ty (0,0)))(o:NT ty){e:TypeId}{sz:Nat}{sl:Sl}{vs:XV}(ho:Sx.Own V0 V e sz sl vs)(he:e=3∨e=121∨e=188):¬A4 sl p:=ho.apart λH hc=>I4 h o H e he hc
theorem AK.same(L:AK V0 V gs ns ls nd s)(h1:s'.g=s.g)(h2:s'.ns=s.ns)(o:s'.lg=s.lg):AK V0 V gs ns ls nd s':=⟨by rw[h1];exact L.glob,L.nodes,by rw[o];exact L.log,L.fld,by rw[h2];exact L.eq,L.gf,L.ff⟩
theorem MA.sub(h:MA ty V0 p row V s):V0.sub V:=by
 obtain⟨_,_,_,_,_,L⟩:=h.ex;exact L.sub
theorem MA.grow(h:MA ty V0 p row V s)(H:V.sub V'):MA ty V0 p row V' s:=by
 obtain⟨gs,ns,ls,nd,o,L⟩:=h.ex;exact⟨h.p0,gs,ns,ls,nd,H _ _ o,L.grow H⟩
theorem MA.narrow(h:MA ty W p row V s)(J:V0.sub W):MA ty V0 p row V s:=by
 obtain⟨gs,ns,ls,nd,H,L⟩:=h.ex;refine⟨?_,gs,ns,ls,nd,H,L.narrow J⟩;cases hc:V0 p with
 |none=>rfl
 |some o=>have:=J _ _ hc;rw[h.p0]at this;cases this
theorem MA.set(o:NT ty)(p0:V0 p=none){x:XQ}(H:V p=some (.cells x ty (0,0)))(L:AK V0 V gs ns ls nd s){c:XQ}(hc:c=(row' gs ns ls).toArray)(h1:s'.g=s.g)(h2:s'.ns=s.ns)(J:s'.lg=s.lg):MA ty V0 p row' (V.set p (.cells c ty (0,0))) s':=
 ⟨p0,gs,ns,ls,nd,by rw[Mem.set_same,hc],(L.put (I4 H o) p0 _).same h1 h2 J⟩
theorem MA.frame(h:MA ty V0 p row V s):∃M:Nat->Prop,(∀b,M b->V b≠none/\V0 b=none)/\∀V',(∀b o,M b->V b=some o->V' b=some o)->MA ty (Mem.minus V' M) p row V' s:=by
 obtain⟨gs,ns,ls,nd,H,L⟩:=h.ex;refine⟨Mine p gs ns ls nd,λb hb=>⟨L.mineV (by rw[H];simp) hb,L.mine0 h.p0 hb⟩,λV' hk=>⟨I3 (.inl rfl),gs,ns,ls,nd,hk _ _ (.inl rfl) H,L.frame hk⟩⟩
theorem MA.after(h:MA ty V0 p row V s)(H:V.sub V'):∃W,V0.sub W/\W.sub V'/\MA ty W p row V' s/\∀b o,V b=none->V' b=some o->W b=some o:=by
 obtain⟨M,h1,h2⟩:=h.frame;refine⟨Mem.minus V' M,λb o hb=>?_,Kv,h2 V' λb o _ hb=>H _ _ hb,λb o hb J=>?_⟩;.rw[GP λhm=>by simp_all];exact H _ _ (h.sub _ _ hb)
 grind[GP]
theorem MA.beside(h:MA ty W p row V s){e:TypeId}{sz:Nat}{sl J:Sl}{vs Z:XV}(Y:V0.sub W)(ho:Sx.Own V0 W e sz sl vs)(H:Sx.Own (V.but sl) V' e sz J Z):∃O,V0.sub O/\MA ty O p row V' s/\Sx.Own V0 O e sz J Z:=by
 obtain⟨M,h1,h2⟩:=h.frame;have nb:∀b,M b->¬A4 sl b:=λb hm hb=>by
  grind[Own.some]
 have keep:∀b o,V b=some o->¬A4 sl b->V' b=some o:=λb o hb hn=>H.sub _ _ (Mem.but_at hb hn);have I:∀b,M b->¬A4 J b:=λb hm hb=>by
  have h0:=Own.none0 H hb;cases hc:V b with
  |none=>simp_all
  |some o=>grind[Mem.but_at]
 have A:V0.sub (Mem.minus V' M):=λb o hb=>by
  have hw:=Y _ _ hb;rw[GP λhm=>by simp_all];exact keep _ _ (h.sub _ _ hw) λL=>by grind[Own.none0]
 refine⟨Mem.minus V' M,A,h2 V' λb o hm hb=>keep b o hb (nb b hm),A,H.len,?_⟩;rcases H.cases0 with R|⟨hc,g,cur,a,b,c,dd⟩;.exact .inl R
 .refine .inr ⟨g,cur,a,?_,?_,dd⟩
  .cases h0:V0 g with
   |none=>rfl
   |some o=>
    have hw:=h.sub _ _ (Y _ _ h0);rw[Mem.but_at hw (ho.apart0 h0)]at b;cases b
  .rw[GP λhm=>I g hm ⟨hc,a⟩];exact c
end
theorem c103{V:Mem}{l:Sl}{xs:XZ}(h:Ae V l 1 (xs.map Aw))(hb:xs.length<=2147483648):Tri xV 103 #[l.v] V λe V'=>∃s:Sl,e=.returned (uL s)/\Sx.Own V V' 3 1 s (xs.flatMap Aw):=by
 refine x103 ?_;refine⟨λh0=>⟨⟨none,0,0⟩,rfl,?_⟩,λh0 J o=>?_⟩
 .have:xs=[]:=by
   cases xs with
   |nil=>rfl
   |cons a Z=>
    have:=h.base (i:=0) (by simp);simp_all
  grind[Own.nil,Mem.sub.refl]
 .have H:=Mem.sub_new o (.cells #[] 3 (0,0));exact app31 (s:=⟨some ⟨J,0,none⟩,0,0⟩) (u:=l) (xs:=[]) (ys:=xs) rfl rfl (Own.empty (V0:=V) H _ _ _) (h.sub H) (by simpa using hb) λs' V' ho=>⟨s',rfl,s',rfl,by simpa using ho⟩
end Go.Proofs
