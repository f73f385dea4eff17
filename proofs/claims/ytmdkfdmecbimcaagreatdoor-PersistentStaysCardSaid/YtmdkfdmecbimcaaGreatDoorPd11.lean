/- Part 11: no statement of the seat is proved here. -/
import Derived.Test.YtmdkfdmecbimcaaGreatDoorPd10
import Derived.DefersIn
import Derived.RecoverIn
set_option linter.unusedVariables false
set_option linter.unusedSimpArgs false
open List renaming getElem?_eq_some_iff->yj,mem_of_getElem?->x8,replicate->yT,map_replicate->vK,take_of_length_le->xc,getElem?_eq_getElem->yi,take_add_one->vM,any_eq_true->xp,mem_iff_getElem?->wG,length_append->zI,length_singleton->yI,length_map->wI,getD_cons_zero->wC,all_eq_true->yC,getElem?_toArray->vT,getElem?_cons_zero->vU
open Prod.mk renaming injEq->zY,inj->vO
open Go.Ending renaming returned->xV
open Go.Proofs.Tryz renaming prog->xS,underlying35->vL,underlying3->vN,underlying189->vP,underlying9->xh,f138->vV
open Go.Value renaming int->wP
open Int renaming toNat_natCast->xa
open Nat renaming log2->vD
open Bool renaming and_eq_true->zC,and_false->vQ
open Option renaming map_some->zL
open Option.some renaming injEq->zG
open Go.Region renaming wanted->yz
open Go.Oper renaming uponIn->vR
open Array renaming replicate->wZ
namespace Go.Proofs
open Go Go.Sx
attribute [local irreducible] Go.Sx.Tri
theorem Ai{c a b:Prop}(h:¬c)(g:b):Br c a b:=⟨λk=>absurd k h,λ_=>g⟩
theorem AK{c a b:Prop}(h:c)(g:a):Br c a b:=⟨λ_=>g,λk=>absurd h k⟩
structure Fv (V0:Mem)(q:Nat)(pr:Pr)(vals:List Int):Prop where
 ex:∃a b:Sl,V0 q=some (.cells #[a.v,b.v] 330 (0,0))/\Ab V0 a 2 (pr.vars.map Fld.row)/\Ab V0 b 1 (vals.map Ah)
theorem Dx{V:Mem}{e:E}(u:E.Ok V e){i:Nat}{a:E}(h:e.k[i]?=some a):¬e.l.p=none/\(0:Int)<=(i:Int)/\(i:Int)<(e.l.n:Int)/\V.rowp e.l.p (i*4) 4=some [.int .i64 a.op,.int .i64 a.n,.string a.s,.slice a.l.p a.l.n a.l.c]:=by
 have f:=u.rows;have r:=f.n_eq;have H:=(yj.1 h).1;obtain⟨y,-,t,-,z,x,j,g⟩:=f.get (i:=i) (by omega);rw[h]at t;cases t;exact⟨x,j,by omega,g⟩
section
variable{V0 V V1:Mem}{d:Ds}{p F c q:Nat}{s:St}{pr:Pr}{vals:List Int}
theorem fieldT_idx{u nm t:KB}(h:DD d u nm=(t,0)):∃(j i:Nat)(k:Ty)(f:Fld),Bw d u=(j:Int)/\d.types[j]?=some k/\k∈d.types/\Cp k.fields nm=(i:Int)/\k.fields[i]?=some f/\f.ty=t:=by
 unfold DD at h;cases g:Dq d u with
 |none=>simp_all
 |some k=>
  rw[g]at h;simp only at h;split at h;·simp at h
  ·rename_i z;simp only[zY,and_true]at h;grind[tyOf_idx,JE,absurd,x8]
theorem typC(S:ES V0 d F)(M:EM V0 d p F V s c)(fr:Fv V0 q pr vals)(hpo:Eb d pr)(G:Ar d s.mm)(hvs:Ax d s.mm pr.vars vals=true):
  ∀(e:E)(t:KB),VE e->E.Ok V0 e->Aw d (Av d pr) e=(t,0)->PP 305 [pv p,pv q,e.v] V (.string t):=by
 intro e;induction e using E.ind with
 |h e ih=>
 intro t hv he ht;obtain⟨gs,ns,ls,nd,x,L⟩:=M.ex;obtain⟨fa,fb,hq0,K,-⟩:=fr.ex;have hq:=L.sub _ _ hq0;have N:=K.sub L.sub;have Z:=S.ds.sub L.sub;have Y:=he.sub L.sub;refine x305 ?_;have g:∀{t':KB},t'=t->(xV (.string t')=xV (.string t)/\V=V):=λh=>⟨by rw[h],rfl⟩;have I:∀{a:E}{u:KB}{R:Ending->Mem->Prop},a∈e.k->Aw d (Av d pr) a=(u,0)->R (.returned (.string u)) V->Tri xS 305 #[pv p,pv q,a.v] V R:=λhm r hR=>(ih _ hm _ (hv.kids _ hm) (he.kids _ hm) r).call hR;cases kindX (sc:=Av d pr) rfl hv ht with
 |int h O=>
  repeat refine Ai (h▸(by decide)) ?_
  exact g rfl
 |bool h O=>
  repeat refine Ai (h▸(by decide)) ?_
  exact AK h (g rfl)
 |nil h O=>
  repeat refine Ai (h▸(by decide)) ?_
  exact AK h (g rfl)
 |var h hl hne=>
  refine AK h ⟨nn,nn,fa,Aj hq 0 1 (by simp),(c295 N).call ⟨_,rfl,?_⟩⟩;rcases H5 G hvs hpo.vars hl hne with⟨i,f,v,h1,h2,h3,h4,-⟩|⟨i,f,v,h0,h1,h2,h3,h4,-⟩
  ·rw[h1];have O:=N.n_eq;have A:=(yj.1 h2).1;obtain⟨y,-,l,-,-,J,X,z⟩:=N.get (i:=i) (by omega);rw[h2]at l;cases l;exact AK (by omega) ⟨nn,nn,fa,Aj hq 0 1 (by simp),J,X,by omega,Al J,_,_,z,g h4⟩
  ·rw[h0];have hg:=Z.globals;have O:=hg.n_eq;have A:=(yj.1 h2).1;obtain⟨y,-,l,-,-,J,X,z⟩:=hg.get (i:=i) (by omega);rw[h2]at l;cases l;refine Ai (by decide) ⟨nn,nn,AM,d.gs,Aj x 2 1 (by simp[AN]),nn,nn,AM,d.gs,Aj x 2 1 (by simp[AN]),(c295 hg).call ⟨_,rfl,?_⟩⟩;rw[h1];exact⟨Ev x 2 0 1 (by simp[AN]),AM,nn,nn,J,X,by omega,Al J,_,_,z,g h4⟩
 |@fld _ u a h H r hf=>
  have h0:e.k[0]?=some a:=by rw[H];rfl
  obtain⟨k1,k2,k3,k4⟩:=Dx Y h0;obtain⟨j,i,tt,f,e1,e2,e3,e4,e5,e6⟩:=fieldT_idx hf;repeat refine Ai (h▸(by decide)) ?_
  refine AK h ⟨nn,nn,AM,d.ts,Aj x 1 1 (by simp[AN]),k1,by decide,k3,_,_,_,_,k4,I (x8 h0) r ⟨_,rfl,Ev x 1 0 1 (by simp[AN]),AM,nn,nn,(c302 S M).call ⟨_,rfl,Ev x 1 0 1 (by simp[AN]),AM,nn,nn,?_⟩⟩⟩;rw[e1];have O:=Z.types.n_eq;have hjl:=(yj.1 e2).1;obtain⟨y,-,l,-,-,J,X,z⟩:=Z.types.get (i:=j) (by omega);rw[e2]at l;cases l;have B:=(Z.typesOk tt e3).fields;have hn2:=B.n_eq;have A:=(yj.1 e5).1;obtain⟨y,-,l,-,-,T,hz2,C⟩:=B.get (i:=i) (by omega);rw[e5]at l;cases l;refine⟨J,X,by omega,_,_,z,(c295 B).call ⟨_,rfl,?_⟩⟩;rw[e4];exact⟨T,hz2,by omega,Al T,_,_,C,g e6⟩
 |new h O=>
  grind
 |@call pr' i h U hr=>
  repeat refine Ai (h▸(by decide)) ?_
  refine AK h ⟨nn,nn,AM,d.ps,Aj x 3 1 (by simp[AN]),nn,nn,d.name,d.ts,d.gs,d.ps,d.ms,d.is,d.qs,d.bs,Aj x 0 8 (by simp[AN]),(c232 Z).call ⟨_,rfl,Ev x 3 0 1 (by simp[AN]),AM,nn,nn,?_⟩⟩;rw[U.idx];have O:=Z.procs.n_eq;have A:=(yj.1 U.at_).1;obtain⟨y,-,l,-,-,J,X,z⟩:=Z.procs.get (i:=i) (by omega);rw[U.at_]at l;cases l;exact⟨J,X,by omega,Al J,_,_,_,_,_,z,g rfl⟩
 |@neg a h H r=>
  repeat refine Ai (h▸(by decide)) ?_
  exact g rfl
 |@not a h H r=>
  repeat refine Ai (h▸(by decide)) ?_
  exact AK h (g rfl)
 |@log a h H r=>
  repeat refine Ai (h▸(by decide)) ?_
  exact g rfl
 |@and a b h H r D=>
  repeat refine Ai (h▸(by decide)) ?_
  exact AK h (g rfl)
 |@or a b h H r D=>
  repeat refine Ai (h▸(by decide)) ?_
  exact AK h (g rfl)
 |@cond a b c _ u w h H r D U hu hw htt=>
  have h1:e.k[1]?=some b:=by rw[H];rfl
  have h2:e.k[2]?=some c:=by rw[H];rfl
  obtain⟨k1,k2,k3,k4⟩:=Dx Y h1;obtain⟨l1,l2,l3,l4⟩:=Dx Y h2;repeat refine Ai (h▸(by decide)) ?_
  refine AK h ⟨k1,by decide,k3,_,_,_,_,k4,I (x8 h1) D ⟨_,rfl,λhE=>⟨l1,by decide,l3,_,_,_,_,l4,I (x8 h2) U ⟨_,rfl,g ?_⟩⟩,λhE=>g ?_⟩⟩;·grind[sNil]
  grind[sNil]
 |@eq a b u w h H r D hf=>
  rcases h with h|h
  ·repeat refine Ai (h▸(by decide)) ?_
   exact AK h (g rfl)
  ·repeat refine Ai (h▸(by decide)) ?_
   exact AK h (g rfl)
 |@cmp a b h H r D=>
  rcases h with h|h
  ·repeat refine Ai (h▸(by decide)) ?_
   exact AK h (g rfl)
  ·repeat refine Ai (h▸(by decide)) ?_
   exact AK h (g rfl)
 |@ari a b h H r D=>
  rcases h with h|h|h|h|h|h|h;all_goals
   repeat refine Ai (h▸(by decide)) ?_
   exact g rfl
theorem lens12(h:Bv d=true):d.globals.length<=8/\∀t∈d.types,t.fields.length<=12:=by
 grind[Bv,Df,EC]
theorem OS(k:∀p∈d.procs,Eb d p){i:Nat}(h:d.procs[i]?=some pr):pr.params.length<=6/\pr.locals.length<=12:=(k pr (x8 h)).lens
theorem c296(M:EM V0 d p F V s c){k a f:Int}(t:s.lg.length+1<=2147483648):Tri xS 296 #[pv p,.int .i64 k,.int .i64 a,.int .i64 f] V λe V'=>e=.returned (.tuple #[])/\EM V0 d p F V' (s.note (k,a,f)) c:=by
 obtain⟨gs,ns,ls,nd,g,L⟩:=M.ex;refine x296 ?_;refine⟨nn,nn,ls,Aj g 14 1 (by simp[AN]),λx u=>L.note (a:=(k,a,f)) u rfl rfl t λs' V' z y=>⟨s',rfl,nn,nn,?_⟩⟩;have h:=y _ _ g (Hs g Gj L.log (.inr (.inr rfl)));refine Ak.at2 (off:=14) h (by simp[AN]) ⟨rfl,MA.set (row':=AN d F s.tk c s.cm) Gj M.p0 h z rfl rfl rfl rfl⟩
theorem c293(g:F<=4000)(M:EM V0 d p F V s c):Tri xS 293 #[pv p] V λe V'=>(s.tk<F/\e=.returned (.tuple #[])/\EM V0 d p F V' {s with tk:=s.tk+1} c)∨(F<=s.tk/\e=fltE 20/\V'=V):=by
 obtain⟨gs,ns,ls,nd,k,L⟩:=M.ex;refine x293 ?_;refine⟨nn,nn,_,Aj k 11 1 (by simp[AN]),nn,nn,_,Aj k 10 1 (by simp[AN]),λh=>Gk (.inr ⟨by omega,rfl,rfl⟩),λh=>⟨nn,nn,_,Aj k 11 1 (by simp[AN]),⟨by omega,by omega⟩,nn,nn,Ak.at2 (off:=11) k (by simp[AN]) (.inl ⟨by omega,rfl,?_⟩)⟩⟩;exact MA.set (row':=AN d F ((s.tk+1:Nat):Int) c s.cm) Gj M.p0 k L rfl rfl rfl rfl
theorem c297(S:ES V0 d F)(M:EM V0 d p F V s c){k j:Nat}{fs:List Int}{l:Ty}(N:s.ns[k]?=some ((j:Int),fs))(r:d.types[j]?=some l){nm:KB}:PP 297 [pv p,.int .i64 ((k:Int)+1),.string nm] V (.int .i64 (Cp l.fields nm)):=by
 obtain⟨gs,ns,ls,nd,f,L⟩:=M.ex;refine x297 ?_;have e:=S.ds.sub L.sub;have h:=L.nodes.rows (λ_=>rfl) (by decide);have Z:=h.n_eq;obtain⟨sl,t⟩:=L.at_ N;have Y:=(yj.1 t).1;obtain⟨y,-,u,-,-,J,O,z⟩:=h.get (i:=k) (by omega);rw[t]at u;cases u;have A:IR ((k:Int)):=⟨by omega,by have:=(h.succ (i:=k) (by omega)).2;omega⟩;have X:=e.types.n_eq;have I:=(yj.1 r).1;obtain⟨y,-,u,-,-,x,H,g⟩:=e.types.get (i:=j) (by omega);rw[r]at u;cases u;refine⟨nn,nn,AM,d.ts,Aj f 1 1 (by simp[AN]),nn,nn,AM,ns,Aj f 9 1 (by simp[AN]),?_⟩;rw[show((k:Int)+1-1)=(k:Int)by omega];exact⟨A,J,O,by omega,Al J,_,_,z,x,H,(show(j:Int)<d.ts.n by omega),Al x,_,_,g,(c295 (e.typesOk l (x8 r)).fields).call ⟨_,rfl,rfl,rfl⟩⟩
end
section
variable{V0 V V1:Mem}{d:Ds}{p F c q:Nat}{s:St}{pr:Pr}{vals:List Int}
def BW(n:Nat)(s:St):Prop:=s.lg.length+s.cm+n<=4000*s.tk
theorem BW.next{n m:Nat}{s s':St}(h:BW (n+m) s)(g:Gr F n s s'):BW m s':=by have:=g.w;unfold BW at*;omega
theorem BW.le{n m:Nat}{s:St}(h:BW n s)(k:m<=n):BW m s:=by unfold BW at*;omega
structure Cx (V0:Mem)(d:Ds)(p F c q:Nat)(pr:Pr)(vals:List Int)(n m:Nat)(V:Mem)(s:St):Prop where
 S:ES V0 d F
 fr:Fv V0 q pr vals
 po:Eb d pr
 G:Ar d s.mm
 hv:Ax d s.mm pr.vars vals=true
 M:EM V0 d p F V s c
 tk:s.tk<=F
 n:F<n+s.tk
 w:BW m s
theorem Cx.fit{n m:Nat}(X:Cx V0 d p F c q pr vals n (m+1) V s):s.lg.length+1<=2147483648:=by
 have h1:=X.w;have h2:=X.tk;have h3:=X.S.fuel;grind[BW]
theorem Cx.next{n m k:Nat}{V':Mem}{s':St}(X:Cx V0 d p F c q pr vals n (m+k) V s)(g:Gr F m s s')(G:Ar d s'.mm)(M:EM V0 d p F V' s' c):Cx V0 d p F c q pr vals n k V' s':=
 ⟨X.S,X.fr,X.po,G,Cb (λh=>g.right h) X.hv,M,g.fu X.tk,by have:=g.tk;have:=X.n;omega,X.w.next g⟩
theorem Cx.le{n m k:Nat}(X:Cx V0 d p F c q pr vals n m V s)(h:k<=m):Cx V0 d p F c q pr vals n k V s:=⟨X.S,X.fr,X.po,X.G,X.hv,X.M,X.tk,X.n,X.w.le h⟩
variable(d p F)in
def CallC(n:Nat):Prop:=∀(V0 V:Mem)(s:St)(c i:Nat)(pr:Pr)(args:List Int)(l:Sl),ES V0 d F->d.procs[i]?=some pr->Ar d s.mm->Ax d s.mm pr.params args=true->Ab V0 l 1 (args.map Ah)->EM V0 d p F V s c->s.tk<=F->F<n+s.tk->BW 0 s->
 Tri xS 192 #[pv p,pr.v,l.v] V (PX V0 d p F c (CF d (AW d F n) c i args s))
variable(d p F)in
def ExprC(n:Nat):Prop:=∀(e:E)(t:KB)(V0 V:Mem)(s:St)(c q:Nat)(pr:Pr)(vals:List Int),Cx V0 d p F c q pr vals n (AB e) V s->VE e->E.Ok V0 e->Aw d (Av d pr) e=(t,0)->
 Tri xS 294 #[pv p,pv q,e.v] V (PX V0 d p F c (Dd d (CF d (AW d F n) c) pr vals e s))
theorem JK{g n:Nat}(h:V g=none)(k:n<=2147483648):Sx.Own V (V.set g (.cells (madeCells (wP .i64 0).cells (n*1)) 3 (0,0))) 3 1 ⟨some ⟨g,0,none⟩,n,n⟩ ((yT n (0:Int)).flatMap Ah):=by
 have e:(madeCells (wP .i64 0).cells (n*1)).toList=(yT n (0:Int)).flatMap Ah:=by rw[Nat.mul_one,Rd,CP,vK]
 refine⟨Mem.sub_new h _,by rw[CP];simp,.inr ⟨g,_,rfl,h,Mem.set_same _ _ _,Nat.le_refl _,by simp only[maxLen];omega,by rw[size_madeCells],?_⟩⟩;grind[xc,CP]
theorem mk35{ty:Nat}{x y:Operand}{vals:Operand->Value}{n:Nat}(h:vals x=.int .i64 n)(k:vals y=.int .i64 n)(f:n<=2147483648){q:Value->Mem->Prop}(t:∀g,V g=none->q (.slice (sa g) n n) (V.set g (.cells (madeCells (wP .i64 0).cells (n*1)) 3 (0,0)))):GenK xS (.makeSlice 35 x y) ty vals V q:=
 GenK.make (z:=.int .i64 0) (i:=ti 3) vL (by kernel_rfl) (by kernel_rfl) (by kernel_rfl) (of_decide_eq_true (by kernel_rfl)) h k f t
theorem AR.got{α:Type}{n:Nat}{s s':St}{r:Rx α}{v:α}{Q:α->St->Prop}(h:AR d F n s r Q)(e:r=.ok v s'):Ar d s'.mm/\Gr F n s s'/\Q v s':=by
 subst e;exact⟨h.good,h.gr,h.q _ _ rfl⟩
theorem callC{n:Nat}(hR:CallC d p F n){e:E}{Y:Pr}{i:Nat}(X:Cx V0 d p F c q pr vals n (AB e) V s)(he:E.Ok V0 e)(O:CallK d (Av d pr) e Y i)(hv:VE e)
  (hE:∀a∈e.k,∀(u:KB)(W V':Mem)(s':St),V0.sub W->Cx W d p F c q pr vals n (AB a) V' s'->Aw d (Av d pr) a=(u,0)->Tri xS 294 #[pv p,pv q,a.v] V' (PX W d p F c (Dd d (CF d (AW d F n) c) pr vals a s'))):
  Tri xS 298 #[pv p,pv q,e.v] V (PX V0 d p F c ((Dv (e.k.map (Dd d (CF d (AW d F n) c) pr vals)) [] s).bind λl st=>CF d (AW d F n) c (i:Int) l st)):=by
 obtain⟨f,B⟩:∃f,f=Dd d (CF d (AW d F n) c) pr vals:=⟨_,rfl⟩;obtain⟨G,hG⟩:∃G:Rx Int,G=(Dv (e.k.map f) [] s).bind λl st=>CF d (AW d F n) c (i:Int) l st:=⟨_,rfl⟩;rw[<-B,<-hG];have hcs:=H9 X.S.procs (Gi (F:=F) X.S.procs n) c;have snd:∀{a:E}{u:KB}{t:St}{m:Nat},a∈e.k->Aw d (Av d pr) a=(u,0)->Ar d t.mm->Gr F m s t->AR d F (AB a) t (f a t) λv s'=>BZ d s'.mm u v:=λhm ha G1 r=>by
  rw[B];exact IT X.S.procs hcs X.po _ _ _ (hv.kids _ hm) ha G1 (Cb (λh=>r.right h) X.hv)
 have hkn:=KY X.S.procs O.at_;have hsz:=szE_eq e;refine Tri.mono (x298 (R:=PX V0 d p F c G) ?_) λ_ _ h=>h;refine Ej (mk:=λs:Sl=>.slice s.p s.n s.c) (b0:=⟨none,0,0⟩) Bb e.k.length (λj sl V1=>∃W acc t,V0.sub W/\Sx.Own V0 W 3 1 sl (acc.flatMap Ah)/\EM W d p F V1 t c/\acc.length=j/\Ar d t.mm/\Gr F ((e.k.take j).map AB).sum s t/\Ax d t.mm (Y.params.take j) acc=true/\
   Dv (e.k.map f) [] s=Dv ((e.k.drop j).map f) acc t) ⟨V0,[],s,Mem.sub.refl _,Own.nil (Mem.sub.refl _) _ _,X.M,rfl,X.G,by simpa using Gr.refl s,Ci.2 ⟨rfl,λj f v h=>by simp at h⟩,rfl⟩ ?_
 rintro j sl V1 J hj ⟨W,acc,t,x,ho,M1,hacc,G1,r,C,z⟩ hJ;have D:=(he.sub x).sub M1.sub;refine⟨λK=>?_,λhge=>?_⟩
 ·obtain⟨a,ham,ha,hdr,hjl,hp,hz,N⟩:=D.rows.get K;have hjp:j<Y.params.length:=by rw[<-O.len];exact hjl
  obtain⟨u,hu,hfit⟩:=O.fit j a _ ha (yi hjp);have hsum:((e.k.take (j+1)).map AB).sum=((e.k.take j).map AB).sum+AB a:=by grind
  have hall:((e.k.take (j+1)).map AB).sum<=(e.k.map AB).sum:=by
   have:=congrArg (λl=>(l.map AB).sum) (List.take_append_drop (j+1) e.k);grind
  have X1:Cx W d p F c q pr vals n (AB a) V1 t:=by
   have X':=X.le (k:=((e.k.take j).map AB).sum+AB a) (by omega);refine⟨X.S.sub x,?_,X.po,G1,Cb (λh=>r.right h) X.hv,M1,r.fu X.tk,by have:=r.tk;have:=X.n;omega,X'.w.next r⟩;obtain⟨a',b',h1,h2,h3⟩:=X.fr.ex;exact⟨a',b',x _ _ h1,h2.sub x,h3.sub x⟩
  rw[hdr,List.map_cons]at z;have Z:Dv (e.k.map f) [] s=(f a t).bind λv st=>Dv ((e.k.drop (j+1)).map f) (acc++[v]) st:=z;refine⟨hp,hz,K,_,_,_,_,N,?_⟩;have H:=hE a ham u W V1 t x X1 hu;rw[<-B]at H;refine PX.split H (λk s2 c' V2 I A=>?_) λv s2 V2 I A=>λtb htb=>?_
  ·rw[hG,Z,I];exact⟨rfl,c',A.narrow x⟩
  obtain⟨G2,g2,hv2⟩:=(snd ham hu G1 r).got I;have hlen:acc.length<=2000:=by
   have hl:=OS X.S.procs O.at_;omega
  have ho2:Sx.Own V0 V2 3 1 sl (acc.flatMap Ah):=Own.moveB ho (x.trans A.sub) λg cur _ hg=>A.sub _ _ hg;refine Eu (s:=sl) (u:=⟨some ⟨tb,0,none⟩,1,1⟩) (xs:=acc) (ys:=[v]) rfl rfl (ho2.but.new htb (.cells #[.int .i64 v] 3 (0,0))) (IU Au) (by simp;omega) λo3 V3 ho3=>⟨o3,rfl,D.rows.succ K,?_⟩;obtain⟨W',hW',M3,ho4⟩:=A.beside x ho ho3;refine hJ hjl _ _ ⟨W',acc++[v],s2,hW',ho4,M3,by simp_all,G2,by rw[hsum];exact r.trans g2,?_,by rw[Z,I];rfl⟩;rw[vM,yi hjp];refine JG (Cb (λh=>g2.right h) C) (Ci.2 ⟨rfl,λk f w B hw=>?_⟩);cases k with
  |zero=>
   simp at B hw;subst B;subst hw;exact(Gg X.S.valid (hkn _ (List.getElem_mem _))).1 (Hr X.S.valid hfit hv2)
  |succ k=>simp at B
 ·have T:=(D.rows.done hge).2;rw[xc T]at r;rw[xc (by rw[<-O.len];exact T)]at C;rw[List.drop_eq_nil_of_le T]at z;have hG1:G=CF d (AW d F n) c (i:Int) acc t:=by rw[hG,z];rfl
  obtain⟨gs,ns,ls,nd,U,L⟩:=M1.ex;have hd:=(X.S.sub x).ds.sub L.sub;refine⟨nn,nn,AM,d.ps,Aj U 3 1 (by simp[AN]),nn,nn,d.name,d.ts,d.gs,d.ps,d.ms,d.is,d.qs,d.bs,Aj U 0 8 (by simp[AN]),(c232 hd).call ⟨_,rfl,Ev U 3 0 1 (by simp[AN]),AM,nn,nn,?_⟩⟩;rw[O.idx];have hn:=hd.procs.n_eq;have hil:=(yj.1 O.at_).1;obtain⟨y,-,hy,-,-,hp,hz,N⟩:=hd.procs.get (i:=i) (by omega);rw[O.at_]at hy;cases hy;have X':=X.le (k:=(e.k.map AB).sum+0) (by omega);refine⟨hp,hz,by omega,_,_,_,_,_,N,PX.split (hR W V1 t c i Y acc sl (X.S.sub x) O.at_ G1 C (ho.rows (λ_=>rfl) (by decide)) M1 (r.fu X.tk) (by have:=r.tk;have:=X.n;omega) (X'.w.next r)) (λk s2 c' V2 I A=>?_) λv s2 V2 I A=>?_⟩;·rw[hG1,I];exact⟨rfl,c',A.narrow x⟩
  ·rw[hG1,I];exact⟨rfl,A.narrow x⟩
end
section
variable{V0 V V1:Mem}{d:Ds}{p F c q:Nat}{s:St}{pr:Pr}{vals:List Int}
theorem FS{V:Mem}{gs:Sl}{l:List Int}(h:Ab V gs 1 (l.map Ah)){i:Nat}{v:Int}(hv:l[i]?=some v):¬gs.p=none/\(0:Int)<=(i:Int)/\(i:Int)<(gs.n:Int)/\V.rowp gs.p (i*1) 1=some [.int .i64 v]:=by
 have z:=h.n_eq;have x:=(yj.1 hv).1;obtain⟨y,-,g,-,f,t,u,k⟩:=h.get (i:=i) (by omega);rw[hv]at g;cases g;exact⟨t,u,by omega,k⟩
theorem nodeAt(M:EM V0 d p F V s c){k i:Nat}{ty v:Int}{fs:List Int}(z:s.ns[k]?=some (ty,fs))(hv:fs[i]?=some v):∃gs ns ls nd sl,V p=some (.cells (AN d F s.tk c s.cm gs ns ls).toArray 218 (0,0))/\AJ V0 V gs ns ls nd s/\nd[k]?=some ⟨ty,sl,fs⟩/\IR (k:Int)/\
  ¬ns.p=none/\(0:Int)<=(k:Int)/\(k:Int)<(ns.n:Int)/\V.rowp ns.p (k*2) 2=some [.int .i64 ty,.slice sl.p sl.n sl.c]/\¬sl.p=none/\(0:Int)<=(i:Int)/\(i:Int)<(sl.n:Int)/\V.rowp sl.p (i*1) 1=some [.int .i64 v]:=by
 obtain⟨gs,ns,ls,nd,t,L⟩:=M.ex;have g:=L.nodes.rows (λ_=>rfl) (by decide);have x:=g.n_eq;obtain⟨sl,h⟩:=L.at_ z;have j:=(yj.1 h).1;obtain⟨y,-,u,-,-,l,r,f⟩:=g.get (i:=k) (by omega);rw[h]at u;cases u;have e:IR ((k:Int)):=⟨by omega,by have:=(g.succ (i:=k) (by omega)).2;omega⟩;obtain⟨H,J,N,Z⟩:=FS ((L.fld _ (x8 h)).rows (λ_=>rfl) (by decide)) hv;exact⟨gs,ns,ls,nd,sl,t,L,h,e,l,r,by omega,f,H,J,N,Z⟩
theorem exprC{n:Nat}(hR:CallC d p F n):ExprC d p F n:=by
 intro e;induction e using E.ind with
 |h e ih=>
 intro t V0 V s c q pr vals X hv he ht;obtain⟨gs,ns,ls,nd,hat,L⟩:=X.M.ex;obtain⟨fa,fb,hq0,hra0,hrb0⟩:=X.fr.ex;have hq:=L.sub _ _ hq0;have hd:=X.S.ds.sub L.sub;have U:=he.sub L.sub;obtain⟨f,hf⟩:∃f,f=Dd d (CF d (AW d F n) c) pr vals:=⟨_,rfl⟩;obtain⟨G,Y⟩:∃G:Rx Int,G=Dc d (CF d (AW d F n) c) pr vals (intB d (Av d pr) e.k) e.op e.n e.s (e.k.map f) s:=⟨_,rfl⟩;rw[evX_eq,<-hf,<-Y];have hcs:=H9 X.S.procs (Gi (F:=F) X.S.procs n) c;have hsz:=szE_eq e;have K:∀{i:Nat}{a:E},e.k[i]?=some a->BP (e.k.map f) i=f a:=λh=>KN h;have kid:∀{i:Nat}{a:E}{u:KB}{V1:Mem}{T:St},e.k[i]?=some a->Aw d (Av d pr) a=(u,0)->Cx V0 d p F c q pr vals n (AB a) V1 T->Tri xS 294 #[pv p,pv q,.agg #[.int .i64 a.op,.int .i64 a.n,.string a.s,.slice a.l.p a.l.n a.l.c]] V1 (PX V0 d p F c (f a T)):=λ{i a u V1 T} z J I=>by
  have hm:=x8 z;rw[hf];exact ih a hm u V0 V1 T c q pr vals I (hv.kids a hm) (he.kids a hm) J
 have go:∀{i:Nat}{a:E}{u:KB}{T s2:St}{V1 V2:Mem}{m k:Nat}{v:Int},e.k[i]?=some a->Aw d (Av d pr) a=(u,0)->Cx V0 d p F c q pr vals n m V1 T->AB a+k<=m->f a T=.ok v s2->EM V0 d p F V2 s2 c->Cx V0 d p F c q pr vals n k V2 s2/\BZ d s2.mm u v:=λ{i a u T s2 V1 V2 m k v} z J I hm e2 M2=>by
  have hmem:=x8 z;have P:=IT X.S.procs hcs X.po a u T (hv.kids a hmem) J I.G I.hv;rw[hf]at e2;obtain⟨G2,g2,q2⟩:=P.got e2;exact⟨(I.le hm).next g2 G2 M2,q2⟩
 have s1':∀{a:E},e.k=[a]->AB e=AB a+1:=λh=>by rw[hsz,h];simp;omega
 have s2':∀{a b:E},e.k=[a,b]->AB e=AB a+AB b+1:=λh=>by rw[hsz,h];simp;omega
 have s3':∀{a b c:E},e.k=[a,b,c]->AB e=AB a+AB b+AB c+1:=λh=>by rw[hsz,h];simp;omega
 refine Tri.mono (x294 (R:=PX V0 d p F c G) ?_) λ_ _ h=>h;have two:∀{a b:E}{u w':KB},(9<=e.op/\e.op<=23/\e.op≠18/\e.op≠19/\e.op≠20/\e.op≠21)->e.k=[a,b]->Aw d (Av d pr) a=(u,0)->Aw d (Av d pr) b=(w',0)->(e.op≠14->e.op≠15->u=Am/\w'=Am)->
   w294 (sa p) (sa q) e.op e.n e.s e.l V (PX V0 d p F c G):=by
  intro a b u w' h N J D hint;have z:e.k[0]?=some a:=by rw[N];rfl
  have h1:e.k[1]?=some b:=by rw[N];rfl
  have Z:=Y;rw[Gh h,K z,K h1]at Z;obtain⟨k1,k2,k3,k4⟩:=Dx U z;unfold w294;have hs:=s2' N;refine Ai (by omega) (Ai (by omega) (Ai (by omega) (Ai (by omega) (Ai (by omega) (Ai (by omega) (Ai (by omega) (Ai (by omega) (Ai (by omega) (Ai (by omega) (Ai (by omega) (Ai (by omega) (Ai (by omega) ?_))))))))))));refine⟨k1,by decide,k3,_,_,_,_,k4,PX.bind Z (kid z J (X.le (by omega))) λv T V1 e1 A H=>?_⟩;obtain⟨I,r⟩:=go (k:=AB b+1) z J X (by omega) e1 A;obtain⟨l1,l2,l3,l4⟩:=Dx (he.sub A.sub) h1;refine⟨l1,by decide,l3,_,_,_,_,l4,PX.bind H (kid h1 D (I.le (by omega))) λw s2 V2 e2 M2 hG2=>?_⟩;obtain⟨X2,hv2⟩:=go (k:=1) h1 D I (by omega) e2 M2;have g2:=((IT X.S.procs hcs X.po b w' T (hv.kids b (x8 h1)) D I.G I.hv).got (by rw[hf]at e2;exact e2)).2.1;have r:=g2.val r;obtain⟨gs2,ns2,ls2,Ht,O,L2⟩:=M2.ex;obtain⟨m1,m2,m3,m4⟩:=Dx (he.sub M2.sub) z;have hcm:s2.cm+1<=16000000:=by have h1:=X2.w;have h2:=X2.tk;have h3:=X2.S.fuel;unfold BW at h1;omega
  have hib:intB d (Av d pr) e.k=decide (u=Am):=by rw[N];show decide ((Aw d (Av d pr) a).1=Am)=_;rw[J]
  rw[hib]at hG2;have ty:=typC (F:=F) X2.S M2 X2.fr X2.po X2.G X2.hv a u (hv.kids a (x8 z)) (he.kids a (x8 z)) J;have hM:EM V0 d p F (V2.set p (.cells (AN d F s2.tk c ((s2.cm+1:Nat):Int) gs2 ns2 ls2).toArray 218 (0,0))) {s2 with cm:=s2.cm+1} c:=MA.set (row':=AN d F s2.tk c ((s2.cm+1:Nat):Int)) Gj M2.p0 O L2 rfl rfl rfl rfl;have yes:∀{x:Int},(e.op=16∨e.op=17∨((e.op=14∨e.op=15)/\u=Am))->Bh e.op v w=.ok x->G=.ok x {s2 with cm:=s2.cm+1}:=λhc hx=>by
   rw[hG2,hx];unfold DN;rw[if_pos (by simpa using hc)];rfl
  have no:∀{x:Int},¬(e.op=16∨e.op=17∨((e.op=14∨e.op=15)/\u=Am))->Bh e.op v w=.ok x->G=.ok x s2:=λhc hx=>by
   rw[hG2,hx];unfold DN;rw[if_neg (by simpa using hc)];rfl
  have eqB:∀{x:Bool},(e.op=14∨e.op=15)->Bh e.op v w=.ok (Er x)->((decide (v=w))==(decide (e.op=14)))=x->_:=λ{x} ho hx D=>by
   refine(⟨m1,by decide,m3,_,_,_,_,m4,ty.call ⟨_,rfl,λhi=>⟨nn,nn,_,Aj O 13 1 (by simp[AN]),⟨by omega,by omega⟩,nn,nn,Ak.at2 (off:=13) O (by simp[AN]) ?_⟩,λhi=>?_⟩⟩:¬e.l.p=none/\(0:Int)<=(0:Int)/\0<(e.l.n:Int)/\∃v16 v17 v18 v19,V2.rowp e.l.p ((0:Int).toNat*4) 4=some [uI v16,uI v17,uS v18,uL v19]/\
    TT 305 #[uP (sa p),uP (sa q),uA #[uI v16,uI v17,uS v18,uL v19]] V2 λe' V3=>∃v20,e'=rV (uS v20)/\
    Br (v20=(Ad [105,110,116]))
    (¬(some (⟨p,0,none⟩:Addr))=none/\¬(some (⟨p,0,none⟩:Addr))=none/\∃v21,V3.rowp (sa p) ((13:Int).toNat*1) 1=some [uI v21]/\
    IR (v21+1)/\¬(some (⟨p,0,none⟩:Addr))=none/\¬(some (⟨p,0,none⟩:Addr))=none/\Ak (Aa (sa p) 13) 0 [uI (v21+1)] V3 λV4=>
    TT 306 #[uB ((decide (v=w))==(decide (e.op=14)))] V4 λe' V5=>∃v22,e'=rV (uI v22)/\PX V0 d p F c G (rV (uI v22)) V5)
    (TT 306 #[uB ((decide (v=w))==(decide (e.op=14)))] V3 λe' V4=>∃v21,e'=rV (uI v21)/\PX V0 d p F c G (rV (uI v21)) V4))
   ·rw[D];exact c306.call ⟨_,rfl,PX.ok (yes (.inr (.inr ⟨ho,hi⟩)) hx) hM⟩
   ·rw[D];exact c306.call ⟨_,rfl,PX.ok (no (λk=>k.elim (λk=>by omega) λk=>k.elim (λk=>by omega) λk=>hi k.2) hx) M2⟩
  have cmB:∀{x:Bool},(e.op=16∨e.op=17)->Bh e.op v w=.ok (Er x)->(¬(some (⟨p,0,none⟩:Addr))=none/\¬(some (⟨p,0,none⟩:Addr))=none/\∃v16,V2.rowp (sa p) ((13:Int).toNat*1) 1=some [uI v16]/\
    IR (v16+1)/\¬(some (⟨p,0,none⟩:Addr))=none/\¬(some (⟨p,0,none⟩:Addr))=none/\Ak (Aa (sa p) 13) 0 [uI (v16+1)] V2 λV3=>
    TT 306 #[uB x] V3 λe' V4=>∃v17,e'=rV (uI v17)/\PX V0 d p F c G (rV (uI v17)) V4):=λ{x} ho hx=>
   ⟨nn,nn,_,Aj O 13 1 (by simp[AN]),⟨by omega,by omega⟩,nn,nn,Ak.at2 (off:=13) O (by simp[AN]) (c306.call ⟨_,rfl,PX.ok (yes (by omega) hx) hM⟩)⟩
  refine⟨λh14=>eqB (x:=decide (v=w)) (.inl h14) ?_ ?_,λh14=>⟨λh15=>eqB (x:=!decide (v=w)) (.inr h15) ?_ ?_,λh15=>⟨λh16=>cmB (.inl h16) ?_,λh16=>⟨λh17=>cmB (.inr h17) ?_,λh17=>?_⟩⟩⟩⟩;·rw[show e.op=14 from h14];rfl
  ·rw[decide_eq_true (show e.op=14 from h14)];cases decide (v=w)<;>rfl
  ·rw[show e.op=15 from h15];rfl
  ·rw[decide_eq_false (show ¬e.op=14 from h14)];cases decide (v=w)<;>rfl
  ·rw[show e.op=16 from h16];rfl
  ·rw[show e.op=17 from h17];rfl
  ·have h14:¬e.op=14:=h14;have h15:¬e.op=15:=h15;have h16:¬e.op=16:=h16;have h17:¬e.op=17:=h17;obtain⟨rfl,rfl⟩:=hint h14 h15;refine PB.last (s:=s2) ?_ M2 (c307 (by omega) (EI.1 r) (EI.1 hv2));rw[hG2];unfold DN;rw[if_neg (by omega)]
 have hkind:=kindX (sc:=Av d pr) rfl hv ht;cases hkind with
 |int h hn=>
  unfold w294;exact AK h (PX.ok (Y.trans (IN (.inl h))) X.M)
 |bool h hn=>
  unfold w294;exact Ai (by omega) (AK h (PX.ok (Y.trans (IN (.inr h))) X.M))
 |nil h hn=>
  unfold w294;repeat refine Ai (h▸(by decide)) ?_
  exact AK h (PX.ok (Y.trans (MD h)) X.M)
 |var h hl hne=>
  unfold w294;have Z:=Y.trans (ME h);have hra:=hra0.sub L.sub;repeat refine Ai (h▸(by decide)) ?_
  refine AK h ⟨nn,nn,fa,Aj hq 0 1 (by simp),(c295 hra).call ⟨_,rfl,?_⟩⟩;have hvg:=(BO X.G.mem).2.2.2.1;rcases H5 X.G X.hv X.po.vars hl hne with⟨i,g,v,h1,h2,h3,h4,-,h6⟩|⟨i,g,v,z,h1,h2,h3,h4,-,h6⟩
  ·rw[h1];obtain⟨g1,g2,g3,g4⟩:=FS (hrb0.sub L.sub) h3;exact AK (by omega) ⟨nn,nn,fb,Aj hq 1 1 (by simp),g1,g2,g3,_,g4,PX.ok (Z.trans h6) X.M⟩
  ·rw[z];have I:=X.le (k:=1) (by omega);refine Ai (by decide) ⟨nn,nn,AM,d.gs,Aj hat 2 1 (by simp[AN]),(c295 hd.globals).call ⟨_,rfl,?_⟩⟩;rw[h1];refine Tri.mono (c296 X.M (Cx.fit (m:=0) I)) ?_;rintro _ V3 ⟨rfl,M3⟩;obtain⟨gs3,ns3,ls3,nd3,C,L3⟩:=M3.ex;obtain⟨g1,g2,g3,g4⟩:=FS (L3.glob.rows (λ_=>rfl) (by decide)) (i:=i) (v:=v) h3;exact⟨rfl,nn,nn,AM,gs3,Aj C 8 1 (by simp[AN]),g1,g2,g3,_,g4,PX.ok (Z.trans h6) M3⟩
 |@fld _ u a h N J hf'=>
  unfold w294;have z:e.k[0]?=some a:=by rw[N];rfl
  have Z:=Y;rw[KO h,K z]at Z;obtain⟨k1,k2,k3,k4⟩:=Dx U z;have hs:=s1' N;repeat refine Ai (h▸(by decide)) ?_
  refine AK h ⟨k1,by decide,k3,_,_,_,_,k4,PX.bind Z (kid z J (X.le (by omega))) λv T V1 e1 A H=>?_⟩;obtain⟨I,r⟩:=go (k:=1) z J X (by omega) e1 A;refine⟨λB=>Gk (PX.bad ?_ A),λB=>?_⟩;·rw[H];unfold fldX;rw[if_pos (show v=0 from B)]
  have B:¬v=0:=B;obtain⟨k,i,j,tt,g,fs,w,rfl,e2,e3,e4,e5,e6,e7,e8,e9,-⟩:=IS I.G hf' r B;refine(c297 X.S A e2 e3).call ⟨_,rfl,?_⟩;rw[e6];refine Tri.mono (c296 A (Cx.fit (m:=0) I)) ?_;rintro _ V3 ⟨rfl,M3⟩;obtain⟨gs3,ns3,ls3,nd3,sl3,C,L3,-,hI,n1,n2,n3,n4,m1,m2,m3,m4⟩:=nodeAt M3 (k:=k) (i:=i) e2 e8;rw[show((k:Int)+1-1)=(k:Int)by omega];refine⟨rfl,nn,nn,AM,ns3,Aj C 9 1 (by simp[AN]),hI,n1,n2,n3,Al n1,_,_,n4,m1,m2,m3,_,m4,PX.ok ?_ M3⟩;rw[H];unfold fldX;rw[if_neg B,show((k:Int)+1-1).toNat=k by omega,e2];simp only;rw[e5,e6,xa,e8];rfl
 |new h hn=>
  unfold w294;have Z:=Y.trans (MF h);repeat refine Ai (h▸(by decide)) ?_
  have hnn:=(L.nodes.rows (λ_=>rfl) (by decide)).n_eq;have hlen:=L.len;refine AK h ⟨nn,nn,AM,ns,Aj hat 9 1 (by simp[AN]),λhl=>Gk (PX.bad ?_ X.M),λhl=>?_⟩
  ·have hl:4096<=(ns.n:Int):=hl;rw[Z];unfold newX;rw[if_pos (by omega)]
  have hl:¬4096<=(ns.n:Int):=hl;obtain⟨tt,htm,hte⟩:=xp.1 hn;have hte:tt.name=e.s:=of_decide_eq_true hte;obtain⟨j,hj⟩:=wG.1 htm;have hidx:Bw d e.s=(j:Int):=hte▸(GS (BO X.G.mem).1).2.1 j tt hj;have hfo:AL d (j:Int)=tt.fields:=EW hj rfl;refine(c302 X.S X.M).call ⟨_,rfl,?_⟩;rw[hidx];have htn:=hd.types.n_eq;have hjl:=(yj.1 hj).1;obtain⟨y,-,hy,-,-,hp,B,hrow⟩:=hd.types.get (i:=j) (by omega);rw[hj]at hy;cases hy;have hfn:=(hd.typesOk tt htm).fields.n_eq;have hfl:=(lens12 X.S.valid).2 tt htm;refine⟨nn,nn,AM,ns,Aj hat 9 1 (by simp[AN]),nn,nn,AM,d.ts,Aj hat 1 1 (by simp[AN]),hp,B,by omega,Al hp,_,_,hrow,mk35 (n:=tt.fs.n) rfl rfl (by omega) λg hg=>⟨⟨some ⟨g,0,none⟩,tt.fs.n,tt.fs.n⟩,rfl,?_⟩⟩;obtain⟨V2,hV2⟩:∃V2,V2=V.set g (.cells (madeCells (wP .i64 0).cells (tt.fs.n*1)) 3 (0,0)):=⟨_,rfl⟩;have hown:=JK hg (n:=tt.fs.n) (by omega);rw[<-hV2]at hown⊢;have O:=hown.sub _ _ hat;refine⟨Ev O 9 0 1 (by simp[AN]),AM,nn,nn,Ev O 9 0 1 (by simp[AN]),AM,nn,nn,λtb htb=>?_⟩;refine L.new (n:=⟨(j:Int),⟨some ⟨g,0,none⟩,tt.fs.n,tt.fs.n⟩,yT tt.fs.n 0⟩) hown htb rfl rfl (by omega) λs3 V3 L3 hk3=>⟨s3,rfl,nn,nn,AM,?_⟩;have C:=hk3 _ _ O (Hs hat Gj L.nodes (.inr (.inl rfl)));refine Ak.at2 (off:=9) C (by simp[AN]) ?_;have M4:EM V0 d p F (V3.set p (.cells (AN d F s.tk c s.cm gs s3 ls).toArray 218 (0,0))) {s with ns:=s.ns++[((j:Int),yT tt.fs.n 0)]} c:=
   ⟨X.M.p0,gs,s3,ls,nd++[_],Mem.set_same _ _ _,L3.put (JH C Gj) X.M.p0 _⟩
  have hn3:=(L3.nodes.rows (λ_=>rfl) (by decide)).n_eq;rw[zI,yI]at hn3;show ¬(some (⟨p,0,none⟩:Addr):Option Addr)=none/\_;refine⟨nn,nn,AM,s3,Aj Au 9 1 (by simp[AN]),?_⟩;rw[show((s3.n:Nat):Int)=(s.ns.length:Int)+1 by omega];have hfit:s.lg.length+1<=2147483648:=Cx.fit (m:=0) (X.le (k:=0+1) (by omega));refine Tri.mono (c296 M4 hfit) ?_;rintro _ V7 ⟨rfl,M7⟩;obtain⟨gs7,ns7,ls7,nd7,hat7,L7⟩:=M7.ex;have hn7:=(L7.nodes.rows (λ_=>rfl) (by decide)).n_eq;have hl7:=L7.len;have hl7:nd7.length=(s.ns++[((j:Int),yT tt.fs.n 0)]).length:=hl7;rw[zI,yI]at hl7;refine⟨rfl,nn,nn,AM,ns7,Aj hat7 9 1 (by simp[AN]),?_⟩;rw[show((ns7.n:Nat):Int)=(s.ns.length:Int)+1 by omega];refine PX.ok ?_ M7;rw[Z];unfold newX;rw[if_neg (by omega),hidx,hfo,<-hfn];rfl
 |@call pr' i h hc hr=>
  unfold w294;have Z:=Y.trans (IP h);rw[hc.idx]at Z;repeat refine Ai (h▸(by decide)) ?_
  refine AK h (PX.last Z ?_);rw[hf];refine callC hR X he hc hv λa hm u W V' s' hW X' J=>?_;exact ih a hm u W V' s' c q pr vals X' (hv.kids a hm) ((he.kids a hm).sub hW) J
 |@neg a h N J=>
  unfold w294;have z:e.k[0]?=some a:=by rw[N];rfl
  have Z:=Y;rw[KP h,K z]at Z;obtain⟨k1,k2,k3,k4⟩:=Dx U z;have hs:=s1' N;repeat refine Ai (h▸(by decide)) ?_
  refine AK h ⟨k1,by decide,k3,_,_,_,_,k4,PX.bind Z (kid z J (X.le (by omega))) λv T V1 e1 A H=>?_⟩;obtain⟨I,r⟩:=go (k:=1) z J X (by omega) e1 A;have:=EI.1 r;rw[<-Int.zero_sub]at H;exact⟨⟨by omega,by omega⟩,PB.last H A c303⟩
 |@not a h N J=>
  unfold w294;have z:e.k[0]?=some a:=by rw[N];rfl
  have Z:=Y;rw[cX18 h,K z]at Z;obtain⟨k1,k2,k3,k4⟩:=Dx U z;have hs:=s1' N;repeat refine Ai (h▸(by decide)) ?_
  refine AK h ⟨k1,by decide,k3,_,_,_,_,k4,PX.bind Z (kid z J (X.le (by omega))) λv T V1 e1 A H=>?_⟩;obtain⟨I,r⟩:=go (k:=1) z J X (by omega) e1 A;have:=E8.1 r;exact⟨⟨by omega,by omega⟩,PX.ok H A⟩
 |@log a h N J=>
  unfold w294;have z:e.k[0]?=some a:=by rw[N];rfl
  have Z:=Y;rw[cX24 h,K z]at Z;obtain⟨k1,k2,k3,k4⟩:=Dx U z;have hs:=s1' N;repeat refine Ai (h▸(by decide)) ?_
  refine AK h ⟨k1,by decide,k3,_,_,_,_,k4,PX.bind Z (kid z J (X.le (by omega))) λv T V1 e1 A H=>?_⟩;obtain⟨I,r⟩:=go (k:=1) z J X (by omega) e1 A;have hr:=EI.1 r;refine GenK.max2 rfl rfl ⟨_,rfl,?_⟩;obtain⟨w,hw⟩:∃w:Nat,(if(1:Int)<v then v else 1)=(w:Int):=⟨(if(1:Int)<v then v else 1).toNat,by split<;>omega⟩;rw[hw];have hw1:1<=w/\(w:Int)<=1099511627776:=by split at hw<;>omega
  have D:vD w<64:=(Nat.log2_lt (by omega)).2 (by omega);have hlen:lenN w=(vD w:Int)+1:=by unfold lenN;rw[if_neg (by omega)]
  refine⟨Rh _ (by omega),(c304 (by omega)).call ⟨_,rfl,?_⟩⟩;rw[hlen];refine⟨⟨by omega,by omega⟩,PX.ok ?_ A⟩;rw[H];have:DE v=(vD w:Int):=by
   unfold DE;by_cases r:1<v;·rw[if_pos r]at hw;rw[hw,xa]
   ·rw[if_neg r]at hw;have:w=1:=by omega
    subst this;have:v.toNat=0∨v.toNat=1:=by omega
    rcases this with h|h<;>rw[h]<;>rfl
  rw[this,show(vD w:Int)+1-1=(vD w:Int)by omega]
 |@and a b h N J D=>
  unfold w294;have z:e.k[0]?=some a:=by rw[N];rfl
  have h1:e.k[1]?=some b:=by rw[N];rfl
  have Z:=Y;rw[cX19 h,K z,K h1]at Z;obtain⟨k1,k2,k3,k4⟩:=Dx U z;have hs:=s2' N;repeat refine Ai (h▸(by decide)) ?_
  refine AK h ⟨k1,by decide,k3,_,_,_,_,k4,PX.bind Z (kid z J (X.le (by omega))) λv T V1 e1 A H=>?_⟩;obtain⟨I,r⟩:=go (k:=AB b) z J X (by omega) e1 A;obtain⟨l1,l2,l3,l4⟩:=Dx (he.sub A.sub) h1;refine⟨λB=>PX.ok ?_ A,λB=>⟨l1,by decide,l3,_,_,_,_,l4,PX.last ?_ (kid h1 D I)⟩⟩;·rw[H,if_pos (show v=0 from B)]
  ·rw[H,if_neg (show ¬v=0 from B)]
 |@or a b h N J D=>
  unfold w294;have z:e.k[0]?=some a:=by rw[N];rfl
  have h1:e.k[1]?=some b:=by rw[N];rfl
  have Z:=Y;rw[cX20 h,K z,K h1]at Z;obtain⟨k1,k2,k3,k4⟩:=Dx U z;have hs:=s2' N;repeat refine Ai (h▸(by decide)) ?_
  refine AK h ⟨k1,by decide,k3,_,_,_,_,k4,PX.bind Z (kid z J (X.le (by omega))) λv T V1 e1 A H=>?_⟩;obtain⟨I,r⟩:=go (k:=AB b) z J X (by omega) e1 A;obtain⟨l1,l2,l3,l4⟩:=Dx (he.sub A.sub) h1;have r:=E8.1 r;refine⟨λB=>PX.ok ?_ A,λB=>⟨l1,by decide,l3,_,_,_,_,l4,PX.last ?_ (kid h1 D I)⟩⟩
  ·have B:v=1:=B;rw[H,if_neg (by omega)]
  ·have B:¬v=1:=B;rw[H,if_pos (by omega)]
 |@cond a b c' _ u w h N J D hc hu hw _=>
  unfold w294;have z:e.k[0]?=some a:=by rw[N];rfl
  have h1:e.k[1]?=some b:=by rw[N];rfl
  have h2:e.k[2]?=some c':=by rw[N];rfl
  have Z:=Y;rw[cX21 h,K z,K h1,K h2]at Z;obtain⟨k1,k2,k3,k4⟩:=Dx U z;have hs:=s3' N;repeat refine Ai (h▸(by decide)) ?_
  refine AK h ⟨k1,by decide,k3,_,_,_,_,k4,PX.bind Z (kid z J (X.le (by omega))) λv T V1 e1 A H=>?_⟩;obtain⟨I,r⟩:=go (k:=AB b+AB c') z J X (by omega) e1 A;obtain⟨l1,l2,l3,l4⟩:=Dx (he.sub A.sub) h1;obtain⟨m1,m2,m3,m4⟩:=Dx (he.sub A.sub) h2;have r:=E8.1 r;refine⟨λB=>⟨l1,by decide,l3,_,_,_,_,l4,PX.last ?_ (kid h1 D (I.le (by omega)))⟩,λB=>⟨m1,by decide,m3,_,_,_,_,m4,PX.last ?_ (kid h2 hc (I.le (by omega)))⟩⟩
  ·have B:v=1:=B;rw[H,if_neg (by omega)]
  ·have B:¬v=1:=B;rw[H,if_pos (by omega)]
 |@eq a b u w h N J D hf'=>exact two (by omega) N J D λ_ _=>by omega
 |@cmp a b h N J D=>exact two (by omega) N J D λ_ _=>⟨rfl,rfl⟩
 |@ari a b h N J D=>exact two (by omega) N J D λ_ _=>⟨rfl,rfl⟩
end
section
variable{W V0 V V1 V':Mem}{d:Ds}{p F c q:Nat}{s:St}{pr:Pr}{vals:List Int}
theorem MA.poke{ty:Nat}{row:Sl->Sl->Sl->List Value}(h:MA ty V0 p row V s){b:Nat}(g:V0 b≠none)(o:Obj):MA ty (V0.set b o) p row (V.set b o) s:=by
 obtain⟨gs,ns,ls,nd,f,L⟩:=h.ex;have k:p≠b:=λe=>g (e▸h.p0);exact⟨by rw[Mem.set_ne k];exact h.p0,gs,ns,ls,nd,by grind[Mem.set_ne],L.poke g o⟩
structure Hv (W V0:Mem)(q:Nat)(pr:Pr)(vals:List Int):Prop where
 sub:W.sub V0
 ex:∃a b:Sl,W q=some (.cells #[a.v,b.v] 330 (0,0))/\Ab W a 2 (pr.vars.map Fld.row)/\Sx.Own W V0 3 1 b (vals.flatMap Ah)
theorem Hv.fv(h:Hv W V0 q pr vals):Fv V0 q pr vals:=by
 obtain⟨a,b,h1,h2,h3⟩:=h.ex;exact⟨a,b,h.sub _ _ h1,h2.sub h.sub,h3.rows (λ_=>rfl) (by decide)⟩
theorem frStore{b:Sl}(own:Sx.Own W V0 3 1 b (vals.flatMap Ah))(M:EM V0 d p F V s c){i:Nat}(hi:i<vals.length){v:Int}{Q:Mem->Prop}
  (t:∀h V',Sx.Own W h 3 1 b ((vals.set i v).flatMap Ah)->EM h d p F V' s c->Q V'):Ak (Aa b.p (i*1)) 0 [.int .i64 v] V Q:=by
 rw[Nat.mul_one];rcases own.cases0 with⟨h1,h2,h3⟩|⟨x,g,cur,h1,h2,h3,h4,u,j,z⟩
 ·rw[CP]at h3;have:vals=[]:=by simpa using h3
  rw[this]at hi;simp at hi
 have y:b.n*1<=b.c*1:=Nat.mul_le_mul_right _ h4;have f:=own.len;rw[CP,wI]at f;have k:V0 g≠none:=by rw[h3];simp
 rw[h1];have e:(cur.toList.take i++[wP .i64 v]++cur.toList.drop (i+1))=cur.toList.set i (.int .i64 v):=K0 _ _ _ (by simp;omega);refine Ak.at2 (off:=i) (M.sub _ _ h3) (by simp;omega) (t (V0.set g _) _ ⟨own.sub.set h2 _,?_,.inr ⟨g,_,h1,h2,Mem.set_same _ _ _,h4,u,?_,?_⟩⟩ (M.poke k _));·rw[CP,wI,List.length_set];exact f
 ·simp_all
 ·rw[show i+[wP .i64 v].length=i+1 from rfl,e];show(cur.toList.set i (.int .i64 v)).take (b.n*1)=_;rw[List.take_set,z,CP,CP,List.map_set]
def PS(W:Mem)(d:Ds)(p F c q:Nat)(pr:Pr)(r:Rx Rt):Ending->Mem->Prop:=λe V'=>match r with
 |.ok g s=>e=.returned (.agg #[.bool g.2.isSome,.int .i64 (g.2.getD 0)])/\∃h,Hv W h q pr g.1/\EM h d p F V' s c
 |.bad k s=>e=fltE k/\∃f,EM W d p F V' s f
theorem PS.bind{f:FuncId}{args:Array Value}{r:Rx Int}{G:Rx Rt}{h:Int->St->Rx Rt}{K:Int->Mem->Prop}(t:W.sub V0)(g:G=r.bind h)(H:Tri xS f args V (PX V0 d p F c r))(u:∀v s V',r=.ok v s->EM V0 d p F V' s c->G=h v s->K v V'):
  Tri xS f args V λe V'=>(∃v,e=.returned (.int .i64 v)/\K v V')∨∃z,e=.panicked z/\PS W d p F c q pr G e V':=
 PX.split H (λk s y V' e hm=>by subst e;rw[g];exact⟨rfl,y,hm.narrow t⟩) λv s V' e hm=>u v s V' e hm (by rw[g,e];rfl)
theorem PS.ok{G:Rx Rt}{rt:Rt}(h:G=.ok rt s)(k:Hv W V0 q pr rt.1)(M:EM V0 d p F V s c){b:Bool}{v:Int}(g:b=rt.2.isSome)(hv:v=rt.2.getD 0):PS W d p F c q pr G (.returned (.agg #[.bool b,.int .i64 v])) V:=by
 rw[h,g,hv];exact⟨rfl,V0,k,M⟩
theorem PS.bad{G:Rx Rt}{k:Int}(h:G=.bad k s)(g:W.sub V0)(M:EM V0 d p F V s c):PS W d p F c q pr G (fltE k) V:=by rw[h];exact⟨rfl,c,M.narrow g⟩
theorem PS.split{f:FuncId}{args:Array Value}{r:Rx Rt}{K:Bool->Int->Mem->Prop}{R:Ending->Mem->Prop}(H:Tri xS f args V (PS W d p F c q pr r))(z:∀k s u V',r=.bad k s->EM W d p F V' s u->R (fltE k) V')(j:∀t s g V',r=.ok t s->Hv W g q pr t.1->EM g d p F V' s c->K t.2.isSome (t.2.getD 0) V'):
  Tri xS f args V λe V'=>(∃b v,e=.returned (.agg #[.bool b,.int .i64 v])/\K b v V')∨∃y,e=.panicked y/\R e V':=
 Tri.mono H λe V' h=>by
  cases r with
  |ok t s=>obtain⟨h1,g,h2,h3⟩:=h;grind
  |bad k s=>
   obtain⟨x,u,hm⟩:=h;subst x;exact .inr ⟨_,rfl,z k s u V' rfl hm⟩
structure Di (W V0:Mem)(d:Ds)(p F c q:Nat)(pr:Pr)(vals:List Int)(n m:Nat)(V:Mem)(s:St):Prop where
 S:ES W d F
 fr:Hv W V0 q pr vals
 po:Eb d pr
 G:Ar d s.mm
 hv:Ax d s.mm pr.vars vals=true
 M:EM V0 d p F V s c
 tk:s.tk<=F
 n:F<n+s.tk
 w:BW m s
theorem Di.cx{n m:Nat}(X:Di W V0 d p F c q pr vals n m V s):Cx V0 d p F c q pr vals n m V s:=⟨X.S.sub X.fr.sub,X.fr.fv,X.po,X.G,X.hv,X.M,X.tk,X.n,X.w⟩
theorem Di.next{n m k:Nat}{f:Mem}{h:List Int}{s':St}(X:Di W V0 d p F c q pr vals n (m+k) V s)(g:Gr F m s s')(G:Ar d s'.mm)(t:Hv W f q pr h)(hv:Ax d s'.mm pr.vars h=true)(M:EM f d p F V' s' c):Di W f d p F c q pr h n k V' s':=
 ⟨X.S,t,X.po,G,hv,M,g.fu X.tk,by have:=g.tk;have:=X.n;omega,X.w.next g⟩
theorem Di.le{n m k:Nat}(X:Di W V0 d p F c q pr vals n m V s)(h:k<=m):Di W V0 d p F c q pr vals n k V s:=⟨X.S,X.fr,X.po,X.G,X.hv,X.M,X.tk,X.n,X.w.le h⟩
variable(d p F)in
def SC(n:Nat):Prop:=∀(l:List S)(W V0 V:Mem)(s:St)(c q:Nat)(pr:Pr)(vals:List Int)(sl:Sl),Di W V0 d p F c q pr vals n 0 V s->(∀x∈l,Et d pr x)->(∀x∈l,S.Ok W x)->Ab W sl 5 (l.map S.row)->
 Tri xS 235 #[pv p,pv q,sl.v] V (PS W d p F c q pr (AW d F n c pr l vals s))
variable(d p F)in
def OT(n:Nat):Prop:=∀(x:S)(W V0 V:Mem)(s:St)(c q:Nat)(pr:Pr)(vals:List Int),Di W V0 d p F c q pr vals (n+1) 0 V s->Et d pr x->S.Ok W x->
 Tri xS 274 #[pv p,pv q,x.v] V (PS W d p F c q pr (DO d F (AW d F n) c pr (n+1) x vals s))
theorem stsC{n:Nat}(H:OT d p F n):SC d p F (n+1):=by
 intro l W V0 V s c q pr vals sl X I K e;obtain⟨f,hf⟩:∃f,f=DO d F (AW d F n) c pr (n+1):=⟨_,rfl⟩;obtain⟨G,hG⟩:∃G:Rx Rt,G=Ea f l vals s:=⟨_,rfl⟩;show Tri _ _ _ _ (PS W d p F c q pr (Ea (DO d F (AW d F n) c pr (n+1)) l vals s));rw[<-hf,<-hG];refine Tri.mono (x235 (R:=PS W d p F c q pr G) ?_) λ_ _ h=>h;refine E4 l.length (λi V1=>∃N g s',Di W N d p F c q pr g (n+1) 0 V1 s'/\G=Ea f (l.drop i) g s') ⟨V0,vals,s,X,hG⟩ ?_;rintro i V1 J hi ⟨N,g,s',t,u⟩ hJ;have T:=e.sub (t.fr.sub.trans t.M.sub);refine⟨λZ=>?_,λU=>?_⟩
 ·obtain⟨x,Y,hx,hdr,hil,hp,hz,j⟩:=T.get Z;rw[S.row_eq]at j;rw[hdr]at u;have z:G=(f x g s').bind λr st=>match r.2 with|some _=>.ok r st|none=>Ea f (l.drop (i+1)) r.1 st:=u
  have P:=st_snd (F:=F) (c:=c) (n:=n+1) t.S.procs (Gi t.S.procs n) t.po (I x Y) t.G t.hv;have Hx:=H x W N V1 s' c q pr g t (I x Y) (K x Y);rw[<-hf]at Hx P;rw[show x.v=.agg #[.int .i64 x.op,.string x.s,.slice x.el.p x.el.n x.el.c,.slice x.ll.p x.ll.n x.ll.c,.slice x.xl.p x.xl.n x.xl.c]by unfold S.v;rw[S.row_eq];rfl]at Hx;refine⟨hp,hz,Z,_,_,_,_,_,j,PS.split Hx (λk C c' V2 D E=>?_) λA C L V2 D B E=>?_⟩;·rw[z,D];exact⟨rfl,c',E⟩
  obtain⟨G2,g2,q2⟩:=P.got D;rw[D]at z;cases y:A.2 with
  |some v=>
   have O:G=.ok A C:=by rw[z];show(match A.2 with|some _=>_|none=>_)=_;rw[y]
   exact⟨λ_=>PS.ok O B E (by rw[y]) (by rw[y]),λh=>absurd rfl h⟩
  |none=>
   have O:G=Ea f (l.drop (i+1)) A.1 C:=by rw[z];show(match A.2 with|some _=>_|none=>_)=_;rw[y]
   exact⟨(λh=>by cases h),λ_=>⟨T.succ Z,hJ hil _ ⟨L,A.1,C,t.next (m:=0) g2 G2 B q2.1 E,O⟩⟩⟩
 ·rw[(T.done U).1]at u;exact PS.ok u t.fr t.M rfl rfl
end
section
variable{W V0 V V1 V':Mem}{d:Ds}{p F c q:Nat}{s:St}{pr:Pr}{vals:List Int}
theorem esAt{x:S}(h:S.Ok V x){i:Nat}{a:E}(g:x.es[i]?=some a):¬x.el.p=none/\(i:Int)<(x.el.n:Int)/\V.rowp x.el.p (i*4) 4=some [.int .i64 a.op,.int .i64 a.n,.string a.s,.slice a.l.p a.l.n a.l.c]:=by
 have f:=h.eRows;have j:=f.n_eq;have r:=(yj.1 g).1;obtain⟨y,-,t,-,u,z,e,k⟩:=f.get (i:=i) (by omega);rw[g]at t;cases t;exact⟨z,by omega,k⟩
theorem K8(h:s.tk<F):Fs F s=.ok () {s with tk:=s.tk+1}:=by unfold Fs;rw[if_neg (by omega)]
theorem K9(h:F<=s.tk):Fs F s=.bad 20 s:=by unfold Fs;rw[if_pos h]
theorem Di.tick{n:Nat}(X:Di W V0 d p F c q pr vals (n+1) 0 V s)(h:s.tk<F)(M:EM V0 d p F V' {s with tk:=s.tk+1} c):Di W V0 d p F c q pr vals n 4000 V' {s with tk:=s.tk+1}:=
 ⟨X.S,X.fr,X.po,⟨X.G.valid,X.G.chk,X.G.mem⟩,X.hv,M,h,by have:=X.n;show F<n+(s.tk+1);omega,by have:=X.w;unfold BW at*;show s.lg.length+s.cm+4000<=4000*(s.tk+1);omega⟩
theorem Di.tick'{n:Nat}(X:Di W V0 d p F c q pr vals n 0 V s)(h:s.tk<F)(M:EM V0 d p F V' {s with tk:=s.tk+1} c):Di W V0 d p F c q pr vals n 4000 V' {s with tk:=s.tk+1}:=
 ⟨X.S,X.fr,X.po,⟨X.G.valid,X.G.chk,X.G.mem⟩,X.hv,M,h,by have:=X.n;show F<n+(s.tk+1);omega,by have:=X.w;unfold BW at*;show s.lg.length+s.cm+4000<=4000*(s.tk+1);omega⟩
theorem Rj{n:Nat}(hE:ExprC d p F n)(hS:SC d p F n)(hR:CallC d p F n):OT d p F n:=by
 intro x W V0 V s c q pr vals X hty C;obtain⟨G,hG0⟩:∃G:Rx Rt,G=DO d F (AW d F n) c pr (n+1) x vals s:=⟨_,rfl⟩;rw[<-hG0];refine Tri.mono ((show x.v=.agg #[.int .i64 x.op,.string x.s,.slice x.el.p x.el.n x.el.c,.slice x.ll.p x.ll.n x.ll.c,.slice x.xl.p x.xl.n x.xl.c]by unfold S.v;rw[S.row_eq];rfl)▸x274 (R:=PS W d p F c q pr G) ?_) λ_ _ h=>h;have hF:=X.S.fuel;refine Tri.mono (c293 hF X.M) ?_;rintro e1 V1 (⟨hlt,rfl,M1⟩|⟨hge,rfl,rfl⟩);rotate_left
 ·refine .inr ⟨_,rfl,PS.bad (s:=s) ?_ X.fr.sub X.M⟩;rw[hG0];unfold DO;rw[K9 hge];rfl
 refine .inl ⟨rfl,?_⟩;obtain⟨s1,hs1⟩:∃s1:St,s1={s with tk:=s.tk+1}:=⟨_,rfl⟩;have Z:Di W V0 d p F c q pr vals n 4000 V1 s1:=by rw[hs1];exact X.tick hlt M1
 have T:G=E9 d F (AW d F n) c pr (n+1) x vals s1:=by rw[hG0];unfold DO;rw[K8 hlt,hs1];rfl
 have hcs:=Gi (F:=F) X.S.procs n;have U:∀{V2:Mem}{N:Mem},W.sub N->N.sub V2->S.Ok V2 x:=λh1 h2=>C.sub (h1.trans h2);have ex:∀{i:Nat}{a:E}{u:KB}{V2 N:Mem}{f:List Int}{O:St}{m:Nat},x.es[i]?=some a->Bz a=true->Aw d (Av d pr) a=(u,0)->Di W N d p F c q pr f n m V2 O->1000<=m->
   Tri xS 294 #[pv p,pv q,.agg #[.int .i64 a.op,.int .i64 a.n,.string a.s,.slice a.l.p a.l.n a.l.c]] V2 (PX N d p F c (CU d (AW d F n) c pr f a O)):=λ{i a u V2 N f O m} D hv ha H hm=>by
  have hp:=GV hv;exact hE a u N V2 O c q pr f (H.cx.le (by omega)) hp.1 ((C.eOk a (x8 D)).sub H.fr.sub) ha
 have go:∀{a:E}{u:KB}{V2 V3 N:Mem}{f:List Int}{O A:St}{m:Nat}{v:Int},Bz a=true->Aw d (Av d pr) a=(u,0)->Di W N d p F c q pr f n (1000+m) V2 O->CU d (AW d F n) c pr f a O=.ok v A->EM N d p F V3 A c->
   Di W N d p F c q pr f n m V3 A/\BZ d A.mm u v/\Gr F 1000 O A:=λ{a u V2 V3 N f O A m v} hv ha H e M3=>by
  obtain⟨G3,g3,q3⟩:=(GW (F:=F) (c:=c) H.S.procs hcs H.po hv ha H.G H.hv).got e;exact⟨H.next g3 G3 H.fr (Cb (λh=>g3.right h) H.hv) M3,q3,g3⟩
 unfold E9 at T;cases kindS hty with
 |@set a u t h I hv ht hl hne hf=>
  rw[if_pos h,I,wC]at T;have D:x.es[0]?=some a:=by rw[I];rfl
  obtain⟨k1,k3,k4⟩:=esAt (U Z.fr.sub Z.M.sub) D;refine AK h ⟨k1,by decide,k3,_,_,_,_,k4,PS.bind Z.fr.sub T (ex D hv ht Z (by omega)) λv O V2 e2 M2 r=>?_⟩;obtain⟨H,B,-⟩:=go (m:=3000) hv ht Z e2 M2;obtain⟨fa,fb,hq0,hra0,hrb0⟩:=H.fr.ex;have hW2:=H.fr.sub.trans H.M.sub;have hq:=hW2 _ _ hq0;refine⟨nn,nn,fa,Aj hq 0 1 (by simp),(c295 (hra0.sub hW2)).call ⟨_,rfl,?_⟩⟩;unfold setX at r;rcases H5 H.G H.hv H.po.vars hl hne with⟨i,g,w,h1,h2,h3,h4,-⟩|⟨i,g,w,h0',h1,h2,h3,h4,-⟩
  ·rw[h1];rw[if_pos (by omega),h1,xa]at r;have hil:=(yj.1 h3).1;have hbn:=((hrb0.rows (λ_=>rfl) (by decide):Ab V0 fb 1 (vals.map Ah))).n_eq;obtain⟨g1,g2,g3,-⟩:=FS (hrb0.rows (λ_=>rfl) (by decide)) h3;refine AK (by omega) ⟨nn,nn,fb,Aj hq 1 1 (by simp),g1,g2,g3,frStore hrb0 M2 hil λN V' ho M'=>?_⟩;exact PS.ok r ⟨ho.sub,fa,fb,hq0,hra0,ho⟩ M' rfl rfl
  ·rw[h0'];rw[if_neg (by omega),h1,xa]at r;obtain⟨gs,ns,ls,nd,hat,L⟩:=M2.ex;have hd:=(H.S.sub H.fr.sub).ds.sub L.sub;refine Ai (by decide) ⟨nn,nn,AM,d.gs,Aj hat 2 1 (by simp[AN]),(c295 hd.globals).call ⟨_,rfl,?_⟩⟩;rw[h1];refine Tri.mono (c296 M2 (Cx.fit (m:=0) (H.cx.le (by omega)))) ?_;rintro _ V5 ⟨rfl,M5⟩;obtain⟨gs5,ns5,ls5,nd5,Y,L5⟩:=M5.ex;obtain⟨g1,g2,g3,-⟩:=FS (L5.glob.rows (λ_=>rfl) (by decide)) (i:=i) (v:=w) h3;have hil:=(yj.1 h3).1;refine⟨rfl,nn,nn,AM,gs5,Aj Y 8 1 (by simp[AN]),g1,g2,g3,L5.setG (i:=i) hil λV6 L6 hk6=>?_⟩;refine PS.ok r H.fr (V0:=V0) (MA.mk M5.p0 ⟨gs5,ns5,ls5,nd5,?_,L6⟩) rfl rfl;rw[hk6 _ (Hs Y Gj L5.glob (.inl rfl))];exact Y
 |@put a b u w t h I hv hw ha ht hl hf=>
  rw[if_neg (by omega),if_pos h,I,wC,List.getD_cons_succ,wC]at T;have D:x.es[0]?=some a:=by rw[I];rfl
  have h1:x.es[1]?=some b:=by rw[I];rfl
  obtain⟨k1,k3,k4⟩:=esAt (U Z.fr.sub Z.M.sub) D;refine Ai (by omega) (AK h ⟨k1,by decide,k3,_,_,_,_,k4,PS.bind Z.fr.sub T (ex D hv ha Z (by omega)) λv O V2 e2 M2 r=>?_⟩);obtain⟨H,B,-⟩:=go (m:=3000) hv ha Z e2 M2;obtain⟨l1,l3,l4⟩:=esAt (U H.fr.sub H.M.sub) h1;refine⟨l1,by decide,l3,_,_,_,_,l4,PS.bind H.fr.sub r (ex h1 hw ht H (by omega)) λy A V3 e3 M3 hG3=>?_⟩;obtain⟨X3,hv3,g3⟩:=go (m:=2000) hw ht H e3 M3;have B:=g3.val B;refine⟨λK=>Gk (PS.bad (s:=A) ?_ X3.fr.sub M3),λK=>?_⟩;·rw[hG3];unfold putX;rw[if_pos (show v=0 from K)];rfl
  have K:¬v=0:=K;obtain⟨k,i,j,tt,g,fs,z,rfl,f2,f3,f4,f5,f6,f7,f8,-⟩:=IS X3.G hl B K;have hG4:G=.ok (vals,none) {A with ns:=A.ns.set k ((j:Int),fs.set i y),lg:=A.lg++[(2,(k:Int)+1,(i:Int))]}:=by
   rw[hG3];unfold putX;rw[if_neg K,show((k:Int)+1-1).toNat=k by omega,f2];simp only;rw[f5,f6,xa];rfl
  refine(c297 (X3.S.sub X3.fr.sub) M3 f2 f3).call ⟨_,rfl,?_⟩;rw[f6];refine Tri.mono (c296 M3 (Cx.fit (m:=0) (X3.cx.le (by omega)))) ?_;rintro _ V5 ⟨rfl,M5⟩;obtain⟨gs5,ns5,ls5,nd5,sl5,Y,L5,hnd5,hI,n1,n2,n3,n4,m1,m2,m3,m4⟩:=nodeAt M5 (k:=k) (i:=i) f2 f8;have hil:=(yj.1 f8).1;rw[show((k:Int)+1-1)=(k:Int)by omega];refine⟨rfl,nn,nn,AM,ns5,Aj Y 9 1 (by simp[AN]),hI,n1,n2,n3,Al n1,_,_,n4,m1,m2,m3,L5.setF hnd5 hil λV6 L6 hk6=>?_⟩;refine PS.ok hG4 X3.fr (V0:=V0) (MA.mk M5.p0 ⟨gs5,ns5,ls5,_,?_,L6⟩) rfl rfl;rw[hk6 _ (Hs Y Gj (L5.fld _ (x8 hnd5)) (.inl rfl))];exact Y
 |@cond a h I hv ht=>
  rw[if_neg (by omega),if_neg (by omega),if_pos h,I,wC]at T;have D:x.es[0]?=some a:=by rw[I];rfl
  obtain⟨k1,k3,k4⟩:=esAt (U Z.fr.sub Z.M.sub) D;obtain⟨-,-,-,hlt1,hlt2⟩:=hty.parts;refine Ai (by omega) (Ai (by omega) (AK h ⟨k1,by decide,k3,_,_,_,_,k4,PS.bind Z.fr.sub T (ex D hv ht Z (by omega)) λv O V2 e2 M2 r=>?_⟩));obtain⟨H,B,-⟩:=go (m:=3000) hv ht Z e2 M2;have B:=E8.1 B;have fin:∀{l:List S}{sl:Sl},(∀y∈l,Et d pr y)->(∀y∈l,S.Ok W y)->Ab W sl 5 (l.map S.row)->G=AW d F n c pr l vals O->Tri xS 235 #[pv p,pv q,.slice sl.p sl.n sl.c] V2 λe' V'=>(∃b v,e'=.returned (.agg #[.bool b,.int .i64 v])/\PS W d p F c q pr G (.returned (.agg #[.bool b,.int .i64 v])) V')∨∃ch,e'=.panicked ch/\PS W d p F c q pr G e' V':=λ{l sl} t1 t2 t3 hGl=>
   PS.split (hS l W V0 V2 O c q pr vals sl (H.le (by omega)) t1 t2 t3) (λk A c' V3 e3 M3=>by rw[hGl,e3];exact⟨rfl,c',M3⟩) λrt A N V3 e3 hf3 M3=>PS.ok (hGl.trans e3) hf3 M3 rfl rfl
  refine⟨λK=>fin hlt1 C.lOk C.lRows ?_,λK=>fin hlt2 C.xOk C.xRows ?_⟩
  ·have K:v=1:=K;rw[r,if_neg (by omega)]
  ·have K:¬v=1:=K;rw[r,if_pos (by omega)]
 |@loop a h I hv ht=>
  rw[if_neg (by omega),if_neg (by omega),if_neg (by omega),if_pos h,I,wC]at T;have D:x.es[0]?=some a:=by rw[I];rfl
  obtain⟨-,-,-,hlt1,-⟩:=hty.parts;refine Ai (by omega) (Ai (by omega) (Ai (by omega) (AK h ?_)));refine⟨λm xs V2=>xs=[]/\∃N f s',Di W N d p F c q pr f n 1000 V2 s'/\F<m+s'.tk/\G=Es d F (AW d F n) c pr a x.ls m f s',n+1,⟨rfl,V0,vals,s1,Z.le (by omega),by have:=Z.n;omega,T⟩,?_⟩;rintro m V2 ⟨-,N,f,s',X',hm,hG'⟩ J hJ;obtain⟨m,rfl⟩:∃m',m=m'+1:=⟨m-1,by have:=X'.tk;omega⟩;rw[Es]at hG';obtain⟨k1,k3,k4⟩:=esAt (U X'.fr.sub X'.M.sub) D;refine⟨k1,by decide,k3,_,_,_,_,k4,PS.bind X'.fr.sub hG' (ex D hv ht X' (by omega)) λv O V3 e2 M2 r=>?_⟩;obtain⟨H,B,g2⟩:=go (m:=0) hv ht X' e2 M2;have B:=E8.1 B;refine⟨λK=>?_,λK=>?_⟩;rotate_left
  ·have K:¬v=1:=K;rw[if_pos (by omega)]at r;exact PS.ok r H.fr H.M rfl rfl
  have K:v=1:=K;rw[if_neg (by omega)]at r;have P:=hcs c pr x.ls f O H.po hlt1 H.G H.hv;refine PS.split (hS x.ls W N V3 O c q pr f x.ll H hlt1 C.lOk C.lRows) (λk A c' V4 e3 M3=>?_) λrt A V0'' V4 e3 hf3 M3=>?_;·rw[r,e3];exact⟨rfl,c',M3⟩
  obtain⟨G3,g3,q3⟩:=P.got e3;have X3:=H.next (m:=0) (k:=0) g3 G3 hf3 q3.1 M3;rw[e3]at r;cases hrt:rt.2 with
  |some z=>
   have hG3:G=.ok rt A:=by rw[r];show(match rt.2 with|some _=>_|none=>_)=_;rw[hrt]
   exact⟨λ_=>PS.ok hG3 hf3 M3 (by rw[hrt]) (by rw[hrt]),λh=>absurd rfl h⟩
  |none=>
   have hG3:G=(Fs F A).bind λ_ st=>Es d F (AW d F n) c pr a x.ls m rt.1 st:=by rw[r];show(match rt.2 with|some _=>_|none=>_)=_;rw[hrt]
   refine⟨(λh=>by cases h),λ_=>Tri.mono (c293 hF M3) ?_⟩;rintro e4 V5 (⟨hlt',rfl,M5⟩|⟨hge,rfl,rfl⟩)
   ·refine .inl ⟨rfl,hJ m _ _ (by omega) ⟨rfl,V0'',rt.1,{A with tk:=A.tk+1},(X3.tick' hlt' M5).le (by omega),?_,by rw[hG3,K8 hlt'];rfl⟩⟩;have:=g2.tk;have:=g3.tk;show F<m+(A.tk+1);omega
   ·exact .inr ⟨_,rfl,PS.bad (s:=A) (by rw[hG3,K9 hge];rfl) hf3.sub M3⟩
 |ret0 h I hr=>
  rw[if_neg (by omega),if_neg (by omega),if_neg (by omega),if_neg (by omega),if_pos h,I]at T;have hn:=(U Z.fr.sub Z.M.sub).eRows.n_eq;rw[I]at hn;refine Ai (by omega) (Ai (by omega) (Ai (by omega) (Ai (by omega) (AK h (AK (by rw[hn];rfl) ?_)))));exact PS.ok T Z.fr Z.M rfl rfl
 |@ret1 a u h I hv ht hr hf=>
  rw[if_neg (by omega),if_neg (by omega),if_neg (by omega),if_neg (by omega),if_pos h,I]at T;have D:x.es[0]?=some a:=by rw[I];rfl
  obtain⟨k1,k3,k4⟩:=esAt (U Z.fr.sub Z.M.sub) D;refine Ai (by omega) (Ai (by omega) (Ai (by omega) (Ai (by omega) (AK h (Ai (by omega) ⟨k1,by decide,k3,_,_,_,_,k4,PS.bind Z.fr.sub T (ex D hv ht Z (by omega)) λv O V2 e2 M2 r=>?_⟩)))));exact PS.ok r Z.fr M2 rfl rfl
 |@call a pr' i h I hv ho hc=>
  rw[if_neg (by omega),if_neg (by omega),if_neg (by omega),if_neg (by omega),if_neg (by omega),if_pos h,I,wC]at T;unfold CU at T;rw[evX_eq,IP ho,hc.idx]at T;have D:x.es[0]?=some a:=by rw[I];rfl
  obtain⟨k1,k3,k4⟩:=esAt (U Z.fr.sub Z.M.sub) D;have hp:=GV hv;have hea:=C.eOk a (x8 D);refine Ai (by omega) (Ai (by omega) (Ai (by omega) (Ai (by omega) (Ai (by omega) (AK h ⟨k1,by decide,k3,_,_,_,_,k4,PS.bind Z.fr.sub T (callC hR (Z.cx.le (by omega)) (hea.sub Z.fr.sub) hc hp.1 λb hb u W' V2 O hW' H ht=>?_) λv O V2 e2 M2 r=>?_⟩)))));·exact hE b u W' V2 O c q pr vals H (hp.1.kids b hb) (((hea.sub Z.fr.sub).kids b hb).sub hW') ht
  ·exact PS.ok r Z.fr M2 rfl rfl
end
theorem own_zero{V0 V:Mem}{e:TypeId}{sz:Nat}{s:Sl}{vs:List Value}(h:Sx.Own V0 V e sz s vs):Sx.Own V0 V e sz ⟨s.p,0,s.c⟩ []:=⟨h.sub,by simp,by
 rcases h.at_ with⟨h1,h2,h3⟩|⟨g,cur,h1,h2,h3,h4,k,f,t⟩;·simp_all
 simp_all⟩
theorem FT{V0 V k V':Mem}{e:TypeId}{sz:Nat}{s:Sl}{vs:List Value}(h:Sx.Own V0 V e sz s vs)(u:k.sub V')(f:∀g o,AP s g->V0 g=none->V g=some o->k g=none/\V' g=some o):Sx.Own k V' e sz s vs:=⟨u,h.len,by
 rcases h.cases0 with h1|⟨t,g,cur,h1,h2,h3,h4⟩;·exact .inl h1
 ·exact .inr ⟨g,cur,h1,(f g _ ⟨t,h1⟩ h2 h3).1,(f g _ ⟨t,h1⟩ h2 h3).2,h4⟩⟩
theorem own_p0{V0 V:Mem}{e:TypeId}{sz:Nat}{s:Sl}{vs:List Value}(h:Sx.Own V0 V e sz s vs)(k:s.c≠0)(m:Nat):Aa s.p (0*m)=s.p:=by
 rw[Nat.zero_mul];rcases h.at_ with⟨h1,h2,h3⟩|⟨g,cur,h1,-⟩;·omega
 ·rw[h1];rfl
theorem az35{V0 V:Mem}{ty:TypeId}{x y:Operand}{vals:Operand->Value}{s:Sl}{n:Nat}{vs:List Int}(f:vals x=.slice s.p s.n s.c)(t:vals y=.int .i64 n)(own:Sx.Own V0 V 3 1 s (vs.flatMap Ah))(g:s.n+n<=2147483648){q:Value->Mem->Prop}
  (j:∀(s':Sl) V',Sx.Own V0 V' 3 1 s' ((vs++yT n (0:Int)).flatMap Ah)->q (.slice s'.p s'.n s'.c) V'):GenK xS (.call {callee:=.builtin .append,args:=#[x,y],argTypes:=#[35,3]}) ty vals V q:=
 Go.Sx.GenK.appendZ (z:=.int .i64 0) (i:=ti 3) (k:=.i64) vL vN (by kernel_rfl) (by kernel_rfl) (by kernel_rfl) (by kernel_rfl) (by decide) (of_decide_eq_true (by kernel_rfl)) (λu hu=>by
  have l:(wP .i64 0).cells=#[wP .i64 0]:=by rfl
  rw[l]at hu;simp at hu;subst hu;rfl) f t own g λs' V' h=>j s' V' (by
  rw[List.flatMap_append];have e:(yT n (0:Int)).flatMap Ah=(Builtin.zeroCells (wP .i64 0).cells n).toList:=by rw[Rb,CP,vK]
  rw[e];exact h)
theorem az23{V0 V:Mem}{ty:TypeId}{x y:Operand}{vals:Operand->Value}{s:Sl}{n:Nat}{vs:List Value}(f:vals x=.slice s.p s.n s.c)(t:vals y=.int .i64 n)(own:Sx.Own V0 V 138 2 s vs)(g:s.n+n<=2147483648){q:Value->Mem->Prop}
  (j:∀(s':Sl) V' ws,Sx.Own V0 V' 138 2 s' ws->q (.slice s'.p s'.n s'.c) V'):GenK xS (.call {callee:=.builtin .append,args:=#[x,y],argTypes:=#[23,3]}) ty vals V q:=
 Go.Sx.GenK.appendZ (z:=.agg #[.string (Ad []),.string (Ad [])]) (i:=ti 138) (k:=.i64) Tryz.underlying23 vN (by kernel_rfl) (by kernel_rfl) (by kernel_rfl) (by kernel_rfl) (by decide) (of_decide_eq_true (by kernel_rfl)) (λu hu=>by
  have l:(Value.agg #[.string (Ad []),.string (Ad [])]).cells=#[.string (Ad []),.string (Ad [])]:=by rfl
  rw[l]at hu;simp at hu;subst hu;rfl) f t own g λs' V' h=>j s' V' _ h
theorem c208{V:Mem}{n:Nat}(f:n<=2147483648):Tri xS 208 #[.slice none 0 0,.int .i64 n] V λe V'=>∃s:Sl,e=.returned (.slice s.p s.n s.c)/\Sx.Own V V' 138 2 s []:=by
 refine x208 (a:=⟨none,0,0⟩) (b:=n) ?_;have e:(n:Int)-(((0:Nat):Int)-((0:Nat):Int))=n:=by omega
 refine Ai (by omega) ⟨⟨by simp,by simp⟩,⟨by rw[e];omega,by rw[e];omega⟩,λh=>⟨⟨by omega,by omega,by omega⟩,?_⟩,λh=>⟨⟨none,0,0⟩,rfl,Own.nil (Mem.sub.refl _) _ _⟩⟩;refine az23 (s:=⟨none,0,0⟩) (n:=n) (vs:=[]) (V0:=V) rfl (by rfl) (Own.nil (Mem.sub.refl _) _ _) (by simpa using f) λs' V' ws k=>⟨s',rfl,⟨by omega,by omega,by simp⟩,⟨s'.p,0,s'.c⟩,?_,own_zero k⟩;by_cases g:s'.c=0;·simp[g]
 ·rw[if_neg (by omega),show((0:Int).toNat*2)=0*2 from rfl,own_p0 k g];simp
theorem c164{V:Mem}{sl a b:Sl}{xs ys:List Fld}(h:Ab V sl 1 ([a,b].map λs:Sl=>[s.v]))(B:Ab V a 2 (xs.map Fld.row))(C:Ab V b 2 (ys.map Fld.row))(hx:xs.length<=100)(hy:ys.length<=100):
  Tri xS 164 #[sl.v] V λe V'=>∃s:Sl,e=.returned (.slice s.p s.n s.c)/\Sx.Own V V' 138 2 s ((xs++ys).flatMap Fld.row):=by
 have E:=B.n_eq;have K:=C.n_eq;refine x164 ?_;refine Ej (mk:=λk:Int=>.int .i64 k) (b0:=0) BX 2 (λi k V1=>V1=V/\k=(((([a,b].take i).map (λs:Sl=>s.n)).sum:Nat):Int)) ⟨rfl,rfl⟩ ?_;rintro i k V1 J hi ⟨rfl,rfl⟩ T;refine⟨λg=>?_,λt=>?_⟩
 ·obtain⟨u,l,hu,r,z,H,N,f⟩:=h.get g;have U:u.n<=100:=by
   grind
  have hs:(([a,b].take (i+1)).map (λs:Sl=>s.n)).sum=(([a,b].take i).map (λs:Sl=>s.n)).sum+u.n:=by grind
  have hs2:(([a,b].take i).map (λs:Sl=>s.n)).sum<=200:=by
   rcases(show i=0∨i=1 by grind)with rfl|rfl;·simp
   ·simp;omega
  refine⟨H,N,g,u,f,⟨by omega,by omega⟩,Ai (by omega) ⟨h.succ g,T z _ _ ⟨rfl,by omega⟩⟩⟩
 ·have h2:=(h.done t).2;have Z:i=2:=by grind
  subst Z;refine Tri.mono (c208 (by simp;omega)) ?_;rintro _ V2 ⟨D,rfl,Y⟩;refine⟨D,rfl,Ej (mk:=λs:Sl=>.slice s.p s.n s.c) (b0:=D) Bb 2 (λj s O=>Sx.Own V1 O 138 2 s ((([xs,ys].take j).flatten).flatMap Fld.row)) Y ?_⟩;rintro j s O J1 hj x A;have I:=h.sub x.sub;refine⟨λg=>?_,λt=>?_⟩
  ·obtain⟨u,l,hu,r,z,H,N,f⟩:=I.get g;obtain⟨y,hzs,L,X⟩:∃y,[xs,ys][j]?=some y/\Ab O u 2 (y.map Fld.row)/\([xs,ys].take j).flatten.length+y.length<=2147483648:=by
    rcases(show j=0∨j=1 by omega)with rfl|rfl;·simp at hu;subst hu;exact⟨xs,rfl,B.sub x.sub,by simp;omega⟩
    ·simp at hu;subst hu;exact⟨ys,rfl,C.sub x.sub,by simp;omega⟩
   refine⟨H,N,g,u,f,EU (s:=s) (u:=u) (xs:=([xs,ys].take j).flatten) (ys:=y) rfl rfl x L X λs' V' ho'=>⟨s',rfl,I.succ g,A z _ _ ?_⟩⟩;grind
  ·have h3:=(I.done t).2;grind
theorem runC{d:Ds}{p F n:Nat}(H:SC d p F n):CallC d p F n:=by
 intro V0 V s c i pr args l hS B G ha hl M htk hn hw;obtain⟨G',C⟩:∃G':Rx Int,G'=CF d (AW d F n) c i args s:=⟨_,rfl⟩;rw[<-C];have D:=x8 B;have r:=hS.procs pr D;have u:=hS.ds.procsOk pr D;refine Tri.mono (x192 (R:=PX V0 d p F c G') ?_) λ_ _ h=>h;obtain⟨gs,ns,ls,nd,J,L⟩:=M.ex;unfold CF at C;refine⟨nn,nn,_,Aj J 12 1 (by simp[AN]),λh2=>Gk (PX.bad (by grind) M),λh2=>?_⟩;rw[if_neg (by omega),xa,B]at C;refine⟨nn,nn,_,Aj J 12 1 (by simp[AN]),⟨by omega,by omega⟩,nn,nn,Ak.at2 (off:=12) J (by simp[AN]) ?_⟩;have M1:EM V0 d p F (V.set p (.cells (AN d F s.tk ((c+1:Nat):Int) s.cm gs ns ls).toArray 218 (0,0))) s (c+1):=MA.set (row':=AN d F s.tk ((c+1:Nat):Int) s.cm) Gj M.p0 J L rfl rfl rfl rfl;obtain⟨V1,E⟩:∃V1,V1=V.set p (.cells (AN d F s.tk ((c+1:Nat):Int) s.cm gs ns ls).toArray 218 (0,0)):=⟨_,rfl⟩;rw[<-E]at M1;show Ag _ _ (V.set p (.cells (AN d F s.tk ((c+1:Nat):Int) s.cm gs ns ls).toArray 218 (0,0))) _;rw[<-E];intro b1 hb1;obtain⟨V2,N⟩:∃V2,V2=V1.set b1 (.cells #[.slice pr.ps.p pr.ps.n pr.ps.c,.slice pr.ls.p pr.ls.n pr.ls.c] 23 (0,0)):=⟨_,rfl⟩;have Z:V1.sub V2:=N▸Mem.sub_new hb1 _;have Y:=M1.sub.trans Z;have K:Ab V2 ⟨some ⟨b1,0,none⟩,2,2⟩ 1 ([pr.ps,pr.ls].map λs:Sl=>[s.v]):=Ab.cells (xs:=[pr.ps,pr.ls]) (row:=λs:Sl=>[s.v]) (by rw[N];exact Mem.set_same _ _ _) rfl (λ_=>rfl) rfl (by simp);show Tri _ _ #[.slice (sa b1) 2 2] (V1.set b1 (.cells #[.slice pr.ps.p pr.ps.n pr.ps.c,.slice pr.ls.p pr.ls.n pr.ls.c] 23 (0,0))) _;rw[<-N];have hln:=r.lens;refine Tri.mono (c164 K (u.params.sub Y) (u.locals.sub Y) (by omega) (by omega)) ?_;rintro _ V3 ⟨j,rfl,o3⟩;have T:=Y.trans o3.sub;have hal:=(Ci.1 ha).1;refine⟨j,rfl,Tri.mono (c108 (hl.sub T) (by omega)) ?_⟩;rintro _ V4 ⟨s4,rfl,o4⟩;have h4n:=o4.n_eq (λ_=>rfl) (by decide);have U:=u.locals.n_eq;refine⟨s4,rfl,az35 (s:=s4) (n:=pr.ls.n) rfl rfl o4 (by omega) λt V5 o5=>⟨t,rfl,λb2 O=>?_⟩⟩;rw[U]at o5;obtain⟨V6,A⟩:∃V6,V6=V5.set b2 (.cells #[.slice j.p j.n j.c,.slice t.p t.n t.c] 330 (0,0)):=⟨_,rfl⟩;have s56:V5.sub V6:=A▸Mem.sub_new O _;have s36:=o5.sub.trans s56;have s16:=Z.trans (o3.sub.trans s36);obtain⟨W,w0,w6,MW,I⟩:=M1.after s16;show Tri _ _ #[pv p,pv b2,.slice pr.bs.p pr.bs.n pr.bs.c] (V5.set b2 (.cells #[.slice j.p j.n j.c,.slice t.p t.n t.c] 330 (0,0))) _;rw[<-A];have n1:∀{b:Nat},V2 b=none->V1 b=none:=λ{b} h=>by
  cases hc:V1 b with
  |none=>rfl
  |some o=>rw[Z _ _ hc]at h;cases h
 have n3:∀{b:Nat},V3 b=none->V2 b=none:=λ{b} h=>by
  cases hc:V2 b with
  |none=>rfl
  |some o=>rw[o3.sub _ _ hc]at h;cases h
 have n5:V3 b2=none:=by
  cases hc:V3 b2 with
  |none=>rfl
  |some o=>rw[o5.sub _ _ hc]at O;cases O
 have hbk:∀{b:Nat},AP t b->V3 b=none:=λh=>Own.none0 o5 h;have z:V0.sub (W.but t):=λb o hb=>Mem.but_at (w0 _ _ hb) λhk=>by have:=hbk hk;rw[T _ _ hb]at this;cases this
 have o5':Sx.Own (W.but t) W 3 1 t ((args++yT pr.locals.length (0:Int)).flatMap Ah):=FT o5 (Mem.but_sub _ _) λg o hk h0 h1=>⟨by grind[Mem.but],I _ _ (n1 (n3 h0)) (s56 _ _ h1)⟩;have o3':Sx.Own (λ_=>none) (W.but t) 138 2 j ((pr.params++pr.locals).flatMap Fld.row):=FT o3 (λ_ _ h=>by cases h) λg o hk h0 h1=>⟨rfl,Mem.but_at (I _ _ (n1 h0) (s36 _ _ h1)) λhk'=>by simp_all⟩;have hfr:W b2=some (.cells #[j.v,t.v] 330 (0,0)):=I _ _ (n1 (n3 n5)) (by rw[A];exact Mem.set_same _ _ _);have nb2:¬AP t b2:=λhk=>by
  grind[Own.some]
 have FR:Hv (W.but t) W b2 pr (args++yT pr.locals.length 0):=⟨Mem.but_sub _ _,j,t,Mem.but_at hfr nb2,o3'.rows (λ_=>rfl) (by decide),o5'⟩;have hv:=JG ha (KU G.valid λf hf=>r.vars f (List.mem_append_right _ hf));have X:Ab (W.but t) pr.bs 5 (pr.body.map S.row):=u.body.sub z;refine PS.split (H pr.body (W.but t) W V6 s (c+1) b2 pr _ pr.bs ⟨hS.sub z,FR,r,G,hv,MW,htk,hn,hw⟩ r.body (λx hx=>(u.stmts x hx).sub z) X) (λk s2 c' V7 e2 M7=>?_) λrt s2 W7 V7 e2 f7 M7=>?_
 ·rw[C];show PX V0 d p F c ((AW d F n (c+1) pr pr.body _ s).bind _) _ _;rw[e2];exact⟨rfl,c',M7.narrow z⟩
 ·have M8:=M7.narrow (z.trans f7.sub);obtain⟨gs7,ns7,ls7,nd7,y,L7⟩:=M8.ex;refine⟨nn,nn,_,Aj y 12 1 (by simp[AN]),⟨by omega,by omega⟩,nn,nn,Ak.at2 (off:=12) y (by simp[AN]) ?_⟩;rw[C];show PX V0 d p F c ((AW d F n (c+1) pr pr.body _ s).bind _) _ _;rw[e2];refine⟨rfl,?_⟩;have e:(((c+1:Nat):Int)-1)=(c:Int):=by omega
  rw[e];exact MA.set (row':=AN d F s2.tk c s2.cm) Gj M8.p0 y L7 rfl rfl rfl rfl
theorem allC(d:Ds)(p F:Nat):∀n,SC d p F n
 |0=>λl W V0 V s c q pr vals sl X _ _ _=>absurd X.n (by have:=X.tk;omega)
 |n+1=>stsC (Rj (exprC (runC (allC d p F n))) (allC d p F n) (runC (allC d p F n)))
end Go.Proofs
namespace Go.Proofs
open Go Go.Sx
section
variable{d:Ds}{F F' b:Nat}
def Sext(s t:St):Prop:=(∃l,t.lg=s.lg++l)/\s.tk<=t.tk/\s.ns.length<=t.ns.length
def RE{α:Type}(s:St)(r:Rx α):Prop:=Sext s r.st
end
end Go.Proofs
namespace Go.Proofs
open Go Go.Sx
section
variable{d:Ds}{F F':Nat}
def Mm.plain(m:Mm):List Int×List (Int×List Int):=(m.globals,m.nodes.map λn=>(n.ty,n.f))
def Bf(m:Mm):St:=⟨m.globals,m.nodes.map λn=>(n.ty,n.f),0,0,[]⟩
theorem St.plain(s:St):s.mm.plain=(s.g,s.ns):=by
 unfold Mm.plain St.mm;simp[Function.comp_def]
theorem IV{m m':Mm}(h:m.plain=m'.plain){i:Nat}{x:Nd}(k:m.nodes[i]?=some x):∃y,m'.nodes[i]?=some y/\y.ty=x.ty/\y.f=x.f:=by
 have h2:(m.nodes.map λn=>(n.ty,n.f))=m'.nodes.map λn=>(n.ty,n.f):=(vO h).2;have:(m'.nodes.map λn=>(n.ty,n.f))[i]?=some (x.ty,x.f):=by grind
 simp_all
theorem FU{m m':Mm}(h:m.plain=m'.plain):m.nodes.length=m'.nodes.length:=by
 have h2:(m.nodes.map λn=>(n.ty,n.f))=m'.nodes.map λn=>(n.ty,n.f):=(vO h).2;have:=congrArg List.length h2;simpa using this
theorem M9{m m':Mm}(h:m.plain=m'.plain)(hv:BY d m=true):BY d m'=true:=by
 obtain⟨p1,g,p3,f,u⟩:=BO hv;have z:=FU h;have y:m.globals=m'.globals:=(vO h).1;have r:∀{t v},AQ d m t v=true->AQ d m' t v=true:=λk=>MG (by omega) (λi x j=>by
  grind[IV]) k
 grind[KV,Cb,wG,IV,x8,EH]
theorem Hw(m:Mm):(Bf m).mm.plain=m.plain:=St.plain _
theorem La{m:Mm}(G:Ar d m):Ar d (Bf m).mm:=⟨G.valid,G.chk,M9 (Hw m).symm G.mem⟩
theorem JL{m m':Mm}(h:m.plain=m'.plain){t:KB}{v:Int}(k:AQ d m t v=true):AQ d m' t v=true:=MG (by rw[FU h];omega) (λi x g=>by
 grind[IV]) k
def CV:Rx Int->Int|.ok _ _=>0|.bad c _=>c
def outV:Rx Int->Int|.ok v _=>v|.bad _ _=>0
def Bc(l:List (Int×Int×Int)):Nat:=(l.filter λa=>decide (0<a.2.1)).length
end
end Go.Proofs
namespace Go.Proofs
open Go Go.Sx
attribute [local irreducible] Go.Sx.Tri
theorem g291:IdxP 291 Nd.row Nd.v 2:=by
 intro V l xs g first t H St N k Z Y
 refine x291 (a:=l) (b:=.func (.func g) first.toArray t.toArray) ?_;refine AE xs.length St Z ?_;intro i b V1 J X r O;have h:=k i V1 r;refine⟨λf=>?_,λz=>?_⟩
 ·obtain⟨x,hm,A,B,I,y,L,u⟩:=h.get f;refine⟨y,L,f,_,_,u,g,_,_,rfl,H,Tri.mono (Y i x V1 A r) ?_⟩;rintro e V2 ⟨b,rfl,h1,h2⟩;exact⟨b,rfl,λj=>.inl ⟨i,rfl,h1 j⟩,λj=>⟨h.succ f,O I _ _ (h2 (by simpa using j))⟩⟩
 ·have e:i=xs.length:=by have:=(h.done z).2;omega
  simp_all
theorem g269:ConP 269 Nd.row Nd.v 2:=conG g291 x269
theorem c269:ConC 269 Nd.row Nd.v 2:=conC g269
theorem JM(w:World):(zeroValue 3).run xS w=.ok (.int .i64 0) w:=by kernel_rfl
def pmap(d:Ds)(i:Nat)(k:KB):Option Value:=if 0<=Bw d k/\Bw d k<(i:Int)then some (.int .i64 (Bw d k))else none
def tmap(d:Ds)(k:KB):Option Value:=if Cg d k=true then some (.int .i64 (Bw d k))else none
section
variable{V:Mem}{d:Ds}{m:Mm}{b:Nat}
theorem idxT_le{i:Nat}{x:Ty}(k:d.types[i]?=some x):0<=Bw d x.name/\Bw d x.name<=(i:Int):=by
 unfold Bw;rcases Cu (λt:Ty=>decide (t.name=x.name)) d.types with⟨-,-,h⟩|⟨j,y,h1,h2,-,h4,-,-,-,g⟩;·grind
 ·rw[h1];refine⟨by omega,?_⟩;have f:¬i<j:=λu=>by
   have:=List.any_eq_false.1 g x (List.mem_take_iff_getElem.2 ⟨i,by omega,(yj.1 k).2⟩);simp_all
  omega
theorem idxT_at{k:KB}{i:Nat}(h:Bw d k=(i:Int)):∃x,d.types[i]?=some x/\x.name=k:=by
 unfold Bw at h;rcases Cu (λt:Ty=>decide (t.name=k)) d.types with⟨h1,-⟩|⟨j,y,h1,h2,-,h4,g,-⟩;·omega
 grind
theorem pmap_all{k:KB}(i:Nat)(hi:d.types.length<=i):pmap d i k=tmap d k:=by
 unfold pmap tmap;rcases MC d k with⟨h1,h2⟩|⟨h1,h2⟩;·grind
 ·obtain⟨j,h⟩:∃j:Nat,Bw d k=(j:Int):=⟨(Bw d k).toNat,by omega⟩;obtain⟨x,g,-⟩:=idxT_at h;grind
theorem c126{s:KB}:PP 126 [.string s] V (.bool (decide (s=Am)||decide (s=AC))):=by
 refine x126 ?_;refine⟨λh=>⟨by grind[Am],rfl⟩,λh=>⟨by rw[decide_eq_false (show ¬s=Am from h)];rfl,rfl⟩⟩
theorem c127{s:KB}(h:By V b (tmap d)):PP 127 [.map (some b),.string s] V (.bool (Cg d s)):=by
 refine x127 ?_;refine Cd.str vP xh JM h ?_;unfold tmap;cases k:Cg d s with
 |true=>simp_all
 |false=>simp_all
theorem c125{p t:Nat}(k:V p=some (cell (.map (some b)) t))(h:By V b (tmap d)){f:Fld}:PP 125 [f.v,pv p] V (.bool (!Bt d f.ty)):=by
 refine x125 ?_;refine c126.call ⟨_,rfl,λh1=>?_,λh1=>⟨some b,An k,(c127 h).call ⟨_,rfl,?_,rfl⟩⟩⟩;·unfold Bt;grind
 grind[Bt,Am,AC]
theorem c124{p t:Nat}(k:V p=some (cell (.map (some b)) t))(h:By V b (tmap d)){l:Sl}{xs:List Fld}(g:Ab V l 2 (xs.map Fld.row)):PP 124 [l.v,pv p] V (.bool (C1 d xs)):=by
 refine x124 ?_;refine(IA (first:=[]) (caps:=[pv p]) g Tryz.call125 (λf=>!Bt d f.ty) (λf _=>c125 k h)).call ⟨_,rfl,?_,rfl⟩;grind[C1]
theorem c128{p q t k:Nat}(g:V p=some (cell (.map (some b)) t))(f:V q=some (cell (.func (.func 124) #[] #[pv p]) k))(h:By V b (tmap d)){y:Ty}(u:Ty.Ok V y):
  PP 128 [y.v,pv q] V (.bool (!C1 d y.fields)):=by
 refine x128 ?_;exact⟨.func (.func 124) #[] #[pv p],rfl,An f,124,_,_,rfl,Tryz.call124,(c124 g h u.fields).callv (first:=[]) (caps:=[pv p]) ⟨_,rfl,rfl,rfl⟩⟩
theorem Ib:Dh d=true↔Bv d=true/\C1 d d.globals=true/\(∀(i:Nat)(x:Ty),d.types[i]?=some x->Bw d x.name=(i:Int))/\∀x∈d.types,C1 d x.fields=true:=by
 unfold Dh;rw[zC,zC,GQ,and_assoc];refine and_congr_right λ_=>and_congr_right λ_=>⟨λh=>⟨λi x k=>?_,λx k=>?_⟩,λh i x k=>?_⟩;·grind
 ·obtain⟨i,g,rfl⟩:=List.mem_iff_getElem.1 k;have:=h i _ (yi g);simp_all
 grind
def Ic(V':Mem)(d:Ds)(mo:Option Nat):Prop:=(Dh d=true/\∃b,mo=some b/\By V' b (tmap d))∨(¬Dh d=true/\mo=none)
theorem OU[Tab V](h:Ds.Ok V d):Tri xS 82 #[d.v] V λr V'=>∃N,r=.returned (.map N)/\V.sub V'/\Ic V' d N:=by
 refine QI ?_;have L:∀{V1:Mem},V.sub V1->¬Dh d=true->(∃N,xV (.map none)=.returned (.map N)/\V.sub V1/\Ic V1 d N):=λf k=>⟨none,rfl,f,.inr ⟨k,rfl⟩⟩;refine(Mo h).call ⟨_,rfl,λhv=>?_,λhv=>L (Mem.sub.refl _) λk=>hv (Ib.1 k).1⟩;refine GenK.makeMap λb hb=>⟨some b,rfl,?_⟩;have f:∀o,V.sub (V.set b o):=λo=>Mem.sub_new hb _;refine AE (mk:=.map) (b0:=none) d.types.length (λi V1=>(∃o,V1=V.set b o)/\By V1 b (pmap d i)/\∀(j:Nat)(x:Ty),j<i->d.types[j]?=some x->Bw d x.name=(j:Int)) ⟨⟨_,rfl⟩,(By.made V b).congr λk=>?_,λ_ _ h=>absurd h (Nat.not_lt_zero _)⟩ ?_;·grind[pmap]
 rintro i b1 _ J hi ⟨⟨o,rfl⟩,hm,hd⟩ hJ;have g:=h.sub (f o);refine⟨λt=>?_,λB=>?_⟩
 ·obtain⟨x,hxm,X,hdr,hl,C,hz,Z⟩:=g.types.get t;have hle:=idxT_le X;refine⟨C,hz,t,_,_,Z,Cd.str vP xh JM hm ?_⟩;by_cases hlo:Bw d x.name<(i:Int)
  ·have e:pmap d i x.name=some (.int .i64 (Bw d x.name)):=by grind[pmap]
   rw[e];refine⟨_,_,rfl,λ_=>L (f o) λk=>?_,λk=>absurd rfl k⟩;grind[Ib]
  ·have e:pmap d i x.name=none:=by grind[pmap]
   rw[e];refine⟨0,false,rfl,(λk=>by cases k),λ_=>Cr.str vP xh hm λo2 D=>⟨g.types.succ t,hJ hl _ _ ⟨⟨o2,by rw[Mem.set_set]⟩,D.congr λk=>?_,λj y hj U=>?_⟩⟩⟩
   ·by_cases hk:k=x.name
    ·subst hk;rw[if_pos rfl];grind[pmap,Bw]
    ·rw[if_neg hk];unfold pmap;by_cases hki:Bw d k=(i:Int);·grind[idxT_at,absurd]
     grind
   grind
 ·have Y:=(g.types.done B).2;have E:By (V.set b o) b (tmap d):=hm.congr λk=>pmap_all i Y;have u:∀(j:Nat)(x:Ty),d.types[j]?=some x->Bw d x.name=(j:Int):=λj x X=>hd j x (by grind) X;intro p C;have O:=Mem.sub_new C (cell (.map (some b)) 189);have z:=Mem.set_same (V.set b o) p (cell (.map (some b)) 189);have l:=E.sub O;have A:=g.sub O;refine(c124 z l A.globals).call ⟨_,rfl,λK=>λq hq=>?_,λK=>L ((f o).trans O) λk=>K (Ib.1 k).2.1⟩;have H:=Mem.sub_new hq (cell (.func (.func 124) #[] #[pv p]) 191);have T:=Mem.set_same ((V.set b o).set p (cell (.map (some b)) 189)) q (cell (.func (.func 124) #[] #[pv p]) 191);have I:=A.sub H;refine(c113 (first:=[]) (caps:=[pv q]) I.types Tryz.call128 (λy=>!C1 d y.fields) (λy U=>c128 (H _ _ z) T (l.sub H) (I.typesOk y U))).call ⟨_,rfl,λha=>L ((f o).trans (O.trans H)) λk=>?_,λha=>⟨_,An (H _ _ z),some b,rfl,(f o).trans (O.trans H),.inl ⟨Ib.2 ⟨hv,K,u,λx X=>?_⟩,b,rfl,l.sub H⟩⟩⟩;·grind[xp,Ib]
  simp_all
theorem c292{mo:Option Nat}(l:Ic V d mo)(N:Dh d=true)(hm:Mm.Ok V m){g:KB}(Z:Bt d g=true){v:Int}:PP 292 [.map mo,m.v,.string g,.int .i64 v] V (.bool (AQ d m g v)):=by
 refine x292 ?_;have Y:=hm.nodes.n_eq;obtain⟨b,rfl,r⟩:∃b,mo=some b/\By V b (tmap d):=by
  rcases l with⟨-,h⟩|⟨h,-⟩;·exact h
  simp_all
 have ret:∀{x y:Bool},x=y->xV (.bool x)=.returned (.bool y)/\V=V:=λh=>by simp_all
 refine⟨λh1=>?_,λh1=>⟨λh2=>?_,λh2=>?_⟩⟩;·grind[AQ,Am]
 ·grind[AQ,Am,AC,inr]
 ·unfold AQ;rw[if_neg (show ¬g=Am from h1),if_neg (show ¬g=AC from h2)];refine⟨λh3=>ret (decide_eq_true (.inl h3)).symm,λh3=>⟨λh4=>⟨λe=>?_,λe=>ret ?_⟩,λh4=>ret ?_⟩⟩
  ·obtain⟨i,rfl⟩:∃i:Nat,v=(i:Int)+1:=⟨(v-1).toNat,by omega⟩;have H:((i:Int)+1-1).toNat=i:=by omega
   obtain⟨x,J,O,-,A,u,I,f⟩:=hm.nodes.get (i:=i) (by omega);have z:=Al (n:=i*2) u;have j:IR ((i:Int)+1-1):=⟨by omega,by have:=(hm.nodes.succ (i:=i) (by omega)).2;omega⟩;have t:Cg d g=true:=by
    grind[Bt,Am,AC]
   rw[H];refine⟨j,u,by omega,by omega,z,_,_,f,Cd.str1 vP xh JM r ?_⟩;unfold tmap;rw[if_pos t];refine⟨_,rfl,KK (k:=1) f (by decide),z,u,by omega,by omega,j,ret ?_⟩;grind
  ·grind
  grind
theorem c271{mo:Option Nat}(N:Ic V d mo)(Z:Dh d=true)(hm:Mm.Ok V m){l:Sl}{xs:List Fld}(f:Ab V l 2 (xs.map Fld.row))(Y:C1 d xs=true){s:Sl}{vs:List Int}(hv:Ab V s 1 (vs.map Ah)):PP 271 [.map mo,m.v,l.v,s.v] V (.bool (Ax d m xs vs)):=by
 refine x271 ?_;have h1:=f.n_eq;have h2:=hv.n_eq;refine⟨λO=>?_,λO=>?_⟩
 ·refine AE (mk:=.bool) (b0:=false) vs.length (λi V1=>V=V1/\AllI (λi v=>AQ d m (tyAt xs i) v) vs i) ⟨rfl,AllI.zero⟩ ?_;rintro i b V1 J D ⟨rfl,e⟩ A;refine⟨λh=>?_,λI=>?_⟩
  ·obtain⟨x,t,E,-,K,L,X,g⟩:=f.get h;obtain⟨y,B,H,-,u,z,j,k⟩:=hv.get (i:=i) (by omega);have C:tyAt xs i=x.ty:=by grind[tyAt]
   have r:Bt d x.ty=true:=yC.1 Y x t;refine⟨L,X,h,_,_,g,z,j,by omega,_,k,(c292 N Z hm r).call ⟨_,rfl,λh3=>⟨f.succ h,A u _ _ ⟨rfl,e.succ H (by grind)⟩⟩,λh3=>?_⟩⟩;unfold Ax;rw[MB H (by grind),vQ];simp_all
  ·unfold Ax;rw[e.all (by omega),decide_eq_true (by omega)];simp_all
 ·unfold Ax;rw[decide_eq_false (by omega)];simp_all
theorem c270(h:Ds.Ok V d){p t:Nat}(k:V p=some (.cells d.row.toArray t (0,0))){n:Nd}:PP 270 [n.v,pv p] V (.bool (!EH d n)):=by
 refine x270 ?_;have g:=h.types.n_eq;refine⟨λh1=>?_,λh1=>⟨by simp,_,Aj k 1 1 (by simp[Ds.row]),?_⟩⟩;·unfold EH;rw[decide_eq_false (by omega)];exact⟨rfl,rfl⟩
 ·refine⟨?_,rfl⟩;grind[EH]
theorem c272(h:Ds.Ok V d)(hm:Mm.Ok V m){mo:Option Nat}(e:Ic V d mo)(y:Dh d=true){p q r t H t3:Nat}(J:V p=some (cell (.map mo) t))(N:V q=some (.cells m.row.toArray H (0,0)))(Z:V r=some (.cells d.row.toArray t3 (0,0))){n:Nd}(Y:n∈m.nodes)(z:EH d n=true):
  PP 272 [n.v,pv p,pv q,pv r] V (.bool (!Ax d m (AL d n.ty) n.f)):=by
 refine x272 ?_;obtain⟨h1,h2⟩:=of_decide_eq_true z;have j:=h.types.n_eq;obtain⟨i,l⟩:∃i:Nat,n.ty=(i:Int):=⟨n.ty.toNat,by omega⟩;obtain⟨x,k,O,-,I,g,L,u⟩:=h.types.get (i:=i) (by omega);have A:=EW O l;rw[A];refine⟨_,An J,_,_,Aj N 0 2 (by simp[Mm.row]),by simp,_,Aj Z 1 1 (by simp[Ds.row]),g,h1,by omega,?_⟩;rw[l];refine⟨Al g,_,_,u,(c271 e y hm (h.typesOk x k).fields ((Ib.1 y).2.2.2 x k) (hm.nodesOk n Y).rows).call ⟨_,rfl,rfl,rfl⟩⟩
theorem c231(h:Ds.Ok V d)(hm:Mm.Ok V m){mo:Option Nat}(N:Ic V d mo):Bn xS 231 [.map mo,d.v,m.v] V (.bool (BY d m)):=by
 refine Bn.mk ?_;refine x231 ?_;have l:=hm.nodes.n_eq;rcases N with⟨u,b,rfl,H⟩|⟨u,rfl⟩;rotate_left
 ·refine⟨λ_=>?_,λk=>absurd rfl k⟩;unfold BY;rw[(Bool.not_eq_true _).mp u];exact⟨rfl,Mem.sub.refl _⟩
 refine⟨(λk=>by cases k),λ_=>⟨λh1=>?_,λh1=>?_⟩⟩;·unfold BY;rw[decide_eq_false (by omega:¬m.nodes.length<=4096)];simp_all[vQ,Bool.false_and,trivial,Mem.sub.refl]
 intro p Z;have y:=Mem.sub_new Z (.cells d.row.toArray 30 (0,0));have z:=Mem.set_same V p (.cells d.row.toArray 30 (0,0));have t:=hm.sub y;refine(c269 (first:=[]) (caps:=[pv p]) t.nodes Tryz.call270 (λn=>!EH d n) (λn l=>c270 (h.sub y) z)).call ⟨_,rfl,λh2=>?_,λh2=>?_⟩;·grind[BY,EH]
 have x:m.nodes.all (EH d)=true:=by
  simp_all
 have e:Ic (V.set p (.cells d.row.toArray 30 (0,0))) d (some b):=.inl ⟨u,b,rfl,H.sub y⟩;have j:=h.sub y;refine⟨nofun,_,Aj z 2 1 (by simp[Ds.row]),(c271 e u t j.globals (Ib.1 u).2.1 t.globals).call ⟨_,rfl,λh3=>?_,λh3=>?_⟩⟩;rotate_left;·grind[BY]
 intro q Y;have O:=Mem.sub_new Y (cell (.map (some b)) 189);intro r A;have J:=Mem.sub_new A (.cells m.row.toArray 45 (0,0));have g:=O.trans J;refine(c269 (first:=[]) (caps:=[pv q,pv r,pv p]) (t.sub g).nodes Tryz.call272 (λn=>!Ax d m (AL d n.ty) n.f) (λn l=>?_)).call ⟨_,rfl,?_,y.trans g⟩;·refine c272 (j.sub g) (t.sub g) (mo:=some b) (.inl ⟨u,b,rfl,(H.sub y).sub g⟩) u (J _ _ Au) Au (g _ _ z) l (yC.1 x n l)
 grind[BY,Ax]
theorem c189[Tab V](h:Ds.Ok V d)(hm:Mm.Ok V m):Bn xS 189 [d.v,m.v] V (.bool (BY d m)):=by
 refine Bn.mk ?_;refine x189 ?_;refine Tri.mono (OU h) ?_;rintro _ V' ⟨g,rfl,k,f⟩;exact⟨g,rfl,(c231 (h.sub k) (hm.sub k) f).call ⟨_,rfl,rfl,k⟩⟩
end
theorem Na{d:Ds}(h:(fltR (Ct d)).2.2=0):Ct d=none:=by
 have key:∀{a:Option Flt},(∀r,a=some r->r.2.2≠0)->(fltR a).2.2=0->a=none:=λ{a} u h=>by
  cases a with
  |none=>rfl
  |some r=>exact absurd h (u r rfl)
 refine key (λr k=>?_) h;unfold Ct at k;have g:∀{a b:Option Flt} {r},a.or b=some r->a=some r∨b=some r:=λ{a b r} h=>by
  cases a with
  |none=>exact .inr (by simpa using h)
  |some x=>exact .inl (by simpa using h)
 rcases g k with h1|k;·exact(Mu d r h1).1
 rcases g k with h1|k;·exact(Mv d r h1).1
 rcases g k with h1|k;·exact(Mw d r h1).1
 rcases g k with h1|k
 ·unfold E6 at h1;obtain⟨j,x,-,f⟩:=II h1;split at f;·rename_i t;cases f;exact t
  ·cases f
 ·exact(Mx d r k).1
section
variable{V:Mem}{d:Ds}{m:Mm}
theorem c233(X:Ds.Ok V d)(hm:Mm.Ok V m)(G:Ar d m){g:KB}{v:Int}:PP 233 [d.v,m.v,.string g,.int .i64 v] V (.bool (AQ d m g v)):=by
 refine x233 ?_;have f:∀{b:Bool},AQ d m g v=b->(xV (.bool b)=.returned (.bool (AQ d m g v))/\V=V):=λe=>⟨by rw[e],rfl⟩;refine⟨λh=>⟨λa=>f ?_,λa=>f ?_⟩,λh=>⟨λh1=>⟨λa=>f ?_,λa=>f ?_⟩,λh1=>⟨λu=>f ?_,λu=>⟨λY=>⟨λr=>?_,λr=>f ?_⟩,λY=>f ?_⟩⟩⟩⟩;·unfold AQ;rw[if_pos (show g=Am from h)];simp[show(-1099511627776:Int)<=v from a]
 ·unfold AQ;rw[if_pos (show g=Am from h)];exact decide_eq_false λk=>a k.1
 ·unfold AQ;rw[if_neg (show ¬g=Am from h),if_pos (show g=AC from h1)];exact decide_eq_true (.inl a)
 ·unfold AQ;rw[if_neg (show ¬g=Am from h),if_pos (show g=AC from h1)];have a:¬v=0:=a;simp[a]
 ·unfold AQ;rw[if_neg (show ¬g=Am from h),if_neg (show ¬g=AC from h1)];exact decide_eq_true (.inl u)
 ·have u:¬v=0:=u;have D:=hm.nodes.n_eq;have r:v<=(m.ns.n:Int):=r;obtain⟨k,B⟩:∃k:Nat,v-1=(k:Int):=⟨(v-1).toNat,by omega⟩;obtain⟨y,O,E,-,-,H,K,J⟩:=hm.nodes.get (i:=k) (by omega);obtain⟨p1,p2,p3,-⟩:=BO G.mem;have T:=of_decide_eq_true (p3 y O);obtain⟨j,A⟩:∃j:Nat,y.ty=(j:Int):=⟨y.ty.toNat,by omega⟩;have U:=X.types.n_eq;obtain⟨tt,-,N,-,-,Z,I,z⟩:=X.types.get (i:=j) (by omega);have l:V.rowp m.ns.p (k*2) 2=some [.int .i64 (j:Int),y.sl.v]:=by rw[<-A];exact J
  rw[B];refine⟨⟨by omega,by omega⟩,H,K,by omega,Al H,_,_,l,Z,I,by omega,Al Z,_,_,z,f ?_⟩;unfold AQ;rw[if_neg (show ¬g=Am from h),if_neg (show ¬g=AC from h1),B,xa,E];refine decide_eq_decide.2 ⟨λt=>?_,λt=>.inr ⟨by omega,by omega,?_⟩⟩
  ·rcases t with t|⟨-,-,t⟩;·exact absurd t u
   ·simp only[zL,zG]at t;obtain⟨x,C,L⟩:=idxT_at (d:=d) (k:=g) (i:=j) (by rw[<-t,A]);rw[N]at C;cases C;exact L
  ·simp only[zL,zG];rw[A,<-(GS p1).2.1 j tt N];exact congrArg _ t
 ·have r:¬v<=(m.ns.n:Int):=r;have D:=hm.nodes.n_eq;have u:¬v=0:=u;unfold AQ;rw[if_neg (show ¬g=Am from h),if_neg (show ¬g=AC from h1)];exact decide_eq_false λt=>by rcases t with t|⟨-,t,-⟩<;>omega
 ·have Y:¬0<v:=Y;have u:¬v=0:=u;unfold AQ;rw[if_neg (show ¬g=Am from h),if_neg (show ¬g=AC from h1)];exact decide_eq_false λt=>by rcases t with t|⟨t,-,-⟩<;>omega
def Be(d:Ds)(m:Mm)(nm:KB)(args:List Int):Int:=
 if AV d nm<0 then 9 else match d.procs[(AV d nm).toNat]? with
  |none=>9
  |some pr=>if args.length=pr.params.length then(if Ax d m pr.params args=true then 0 else 11)else 3
theorem Lb{nm:KB}{args:List Int}(h:Be d m nm args=0):∃(i:Nat)(pr:Pr),AV d nm=(i:Int)/\d.procs[i]?=some pr/\Ax d m pr.params args=true:=by
 unfold Be at h;split at h;·cases h
 ·split at h;·cases h
  ·rename_i h1 pr k;split at h
   ·split at h;·exact⟨(AV d nm).toNat,pr,by omega,k,by assumption⟩
    ·cases h
   ·cases h
def noPr:Pr:=⟨Ad [],Af,[],Ad [],Af,[],Af,[]⟩
theorem c190(r:Ds.Ok V d)(hm:Mm.Ok V m)(G:Ar d m){l:Sl}{args:List Int}(I:Ab V l 1 (args.map Ah)){nm:KB}:
  PP 190 [d.v,m.v,.agg #[.string nm,l.v]] V (.tuple #[(if Be d m nm args=0 then((d.procs[(AV d nm).toNat]?).getD noPr)else noPr).v,.int .i64 (Be d m nm args)]):=by
 refine x190 ?_;have bad:∀{e:Int},Be d m nm args=e->e≠0->(xV (.tuple #[noPr.v,.int .i64 e])=.returned (.tuple #[(if Be d m nm args=0 then((d.procs[(AV d nm).toNat]?).getD noPr)else noPr).v,.int .i64 (Be d m nm args)])/\V=V):=λe h=>⟨by rw[e,if_neg h],rfl⟩;refine(c232 r).call ⟨_,rfl,λh=>?_,λh=>?_⟩;·exact bad (by unfold Be;rw[if_pos h]) (by decide)
 ·have h:¬AV d nm<0:=h;rcases Cu (λt:Pr=>decide (t.name=nm)) d.procs with⟨h1,-⟩|⟨i,pr,h1,h2,-⟩
  ·have:AV d nm=-1:=h1;omega
  have hi:AV d nm=(i:Int):=h1;have hn:=r.procs.n_eq;have hil:=(yj.1 h2).1;obtain⟨y,X,hy,-,-,hp,hz,H⟩:=r.procs.get (i:=i) (by omega);rw[h2]at hy;cases hy;have N:Be d m nm args=if args.length=pr.params.length then(if Ax d m pr.params args=true then 0 else 11)else 3:=by unfold Be;rw[if_neg h,hi,xa,h2]
  have Z:=(r.procsOk pr X).params;have hln:=Z.n_eq;have han:=I.n_eq;rw[hi]at bad⊢;refine⟨hp,hz,by omega,_,_,_,_,_,H,λu=>?_,λu=>?_⟩
  ·have u:(l.n:Int)=(pr.ps.n:Int):=u;have Y:args.length=pr.params.length:=by omega
   rw[if_pos Y]at N;refine AE (mk:=λk:Int=>.int .i64 k) (b0:=0) args.length (λj V1=>V1=V/\∀(i:Nat) f v,i<j->pr.params[i]?=some f->args[i]?=some v->AQ d m f.ty v=true) ⟨rfl,λi f v h=>by omega⟩ ?_;rintro j b V1 J hj ⟨rfl,z⟩ hJ;refine⟨λx=>?_,λB=>?_⟩
   ·obtain⟨v,hvm,hv,-,C,D,E,K⟩:=I.get x;obtain⟨f,hfm,L,-,-,O,T,U⟩:=Z.get (i:=j) (by omega);refine⟨D,E,x,v,K,O,T,by omega,Al O,_,_,U,(c233 r hm G).call ⟨_,rfl,λhb=>⟨I.succ x,hJ C _ _ ⟨rfl,λi g w hi' hg hw=>?_⟩⟩,λhb=>bad ?_ (by decide)⟩⟩
    ·rcases Nat.lt_or_ge i j with h3|h3;·exact z i g w h3 hg hw
     ·obtain rfl:i=j:=by omega
      rw[L]at hg;cases hg;rw[hv]at hw;cases hw;exact hb
    ·rw[N,if_neg λk=>hb ((Ci.1 k).2 j f v L hv)]
   ·have hd2:=(I.done B).2;have A:Ax d m pr.params args=true:=Ci.2 ⟨Y.symm,λi f v L hv=>z i f v (by have:=(yj.1 hv).1;omega) L hv⟩;rw[if_pos A]at N;refine⟨?_,rfl⟩;rw[N,if_pos rfl,xa,h2];rfl
  ·have u:¬(l.n:Int)=(pr.ps.n:Int):=u;exact bad (by rw[N,if_neg (by omega)]) (by decide)
noncomputable def C2(d:Ds)(m:Mm)(F:Int):Int:=by
 classical
 exact if Ar d m then(if F<0 then 2 else if 1048576<F then 2 else 0)else 1
theorem c137[Tab V](f:Ds.Ok V d)(hm:Mm.Ok V m){F:Int}:PP 137 [d.v,m.v,.int .i64 F] V (.int .i64 (C2 d m F)):=by
 refine x137 ?_;have bad:¬Ar d m->(xV (.int .i64 1)=.returned (.int .i64 (C2 d m F))/\V=V):=λh=>⟨by unfold C2;rw[if_neg h],rfl⟩;refine(OC scopeC newC f).call ?_;by_cases hv:Bv d=true
 ·rw[if_pos hv];refine⟨_,_,_,rfl,λg=>(c189 f hm).call ⟨_,rfl,λh1=>?_,λh1=>bad λk=>h1 k.mem⟩,λg=>bad λk=>g (by rw[k.chk];rfl)⟩;have G:Ar d m:=⟨hv,Na g,h1⟩;refine⟨λh=>⟨?_,rfl⟩,λh=>⟨λh2=>⟨?_,rfl⟩,λh2=>⟨?_,rfl⟩⟩⟩;·unfold C2;rw[if_pos G,if_pos h]
  ·unfold C2;rw[if_pos G,if_neg h,if_pos h2]
  ·unfold C2;rw[if_pos G,if_neg h,if_neg h2]
 ·rw[if_neg hv];exact⟨_,_,_,rfl,λh=>absurd h (by decide),λ_=>bad λk=>hv k.valid⟩
end
theorem loop3u{V:Mem}{β h:Type}{mk:β->Value}{mc:h->Value}{B:β->h->Int->Mem->(KZ)->Prop}{b0:β}{c0:h}(inj:∀x y,mk x=mk y->x=y)(t:∀x y,mc x=mc y->x=y)(len:Nat)(St:Nat->β->h->Mem->Prop)(j:St 0 b0 c0 V)
  (step:∀(i:Nat)(b:β)(c:h) V1 J,i<=len->St i b c V1->(i<len->∀k g V2,St (i+1) k g V2->J [mk k,mc g,.int .i64 ((i:Int)+1)] V2)->B b c (i:Int) V1 J):
  ∃(I:Nat->KZ)(l:Nat),I l [mk b0,mc c0,.int .i64 0] V/\∀n V1,∀b:β,∀c:h,∀v:Int,I n [mk b,mc c,.int .i64 v] V1->∀J:KZ,(∀m ys f,m<n->I m ys f->J ys f)->B b c v V1 J:=by
 refine⟨LI len λi xs V=>∃b c,xs=[mk b,mc c,.int .i64 i]/\St i b c V,len,LI.start ⟨b0,c0,rfl,j⟩,?_⟩;rintro n V1 b c v ⟨i,rfl,r,k,g,z,e⟩ J H;simp only[List.cons.injEq,Value.int.injEq,true_and,and_true]at z;obtain⟨N,Z,rfl⟩:=z;cases inj _ _ N;cases t _ _ Z;exact step i b c V1 J r e λu k g V2 h2=>LI.next H u ⟨k,g,rfl,h2⟩
theorem c139{V:Mem}{m:Mm}(hm:Mm.Ok V m)(h1:m.globals.length<=2147483648)(h2:m.nodes.length<=4096)(h3:∀n∈m.nodes,n.f.length<=2147483648):Tri xS 139 #[m.v] V λe V'=>∃gs ns nd,e=.returned (.agg #[.slice gs.p gs.n gs.c,.slice ns.p ns.n ns.c])/\AJ V V' gs ns Af nd (Bf m):=by
 refine x139 ?_;refine Tri.mono (c108 hm.globals h1) ?_;rintro _ V1 ⟨gs,rfl,u⟩;refine⟨gs,rfl,loop3u (mk:=λs:Sl=>.slice s.p s.n s.c) (mc:=λs:Sl=>.slice s.p s.n s.c) (b0:=gs) (c0:=⟨none,0,0⟩) Bb Bb m.nodes.length (λi b ns V2=>b=gs/\∃nd,AJ V V2 gs ns Af nd ⟨m.globals,(m.nodes.take i).map λn=>(n.ty,n.f),0,0,[]⟩/\nd.length=i) ⟨rfl,[],⟨u,Own.nil u.sub _ _,Own.nil u.sub _ _,(λn z=>by cases z),rfl,(λn z=>by cases z),(λi j n C c h=>by cases h)⟩,rfl⟩ ?_⟩;rintro i b ns V2 J D ⟨rfl,nd,L,y⟩ Z;have l:=hm.nodes.sub L.sub;refine⟨λk=>?_,λr=>?_⟩
 ·obtain⟨x,g,Y,-,H,O,A,t⟩:=l.get k;refine⟨O,A,k,x.ty,x.sl,t,Tri.mono (c108 ((hm.nodesOk x g).rows.sub L.sub) (h3 x g)) ?_⟩;rintro _ E ⟨fs,rfl,I⟩;refine⟨fs,rfl,λK N=>L.new (n:=⟨x.ty,fs,x.f⟩) I N rfl rfl (by omega) λs' V' X _=>⟨s',rfl,l.succ k,Z H _ _ _ ⟨rfl,nd++[⟨x.ty,fs,x.f⟩],?_,by rw[zI,y];rfl⟩⟩⟩;rw[vM,Y];simpa using X
 ·have B:=(l.done r).2;rw[xc B]at L;exact⟨b,ns,nd,rfl,L⟩
end Go.Proofs
namespace Go.Sx
open Go
section
variable{P:Program}{n:Nat}{ops:Array Oper}{i:Nat}{o:Oper}{rest:List Nat}{Q:Exit->Act->World->Prop}{a:Act}{w:World}
theorem Ie(h:o.guard=none):yz o (yielded ops a.tmps)=true:=by simp[yz,h]
theorem step_value{v:Value}(g:ops[i]?=some o)(f:o.guard=none)(h:(execOp a.eval o).run P w=.ok (.value v) w)(k:wpOpsIn (Ay none) n P ops Q rest (a.put o.dst v) w):wpOpsIn (Ay none) n P ops Q (i::rest) a w:=by
 rw[wpOpsIn_cons];unfold wpOpIn;simp only[g];rw[if_pos (Ie f)];refine⟨λ_ _=>trivial,?_⟩;show vR _ _ _ _ _ _ _ ((execOp a.eval o).run P w);rw[h];exact k
theorem step_defer{d:Deferred}(g:ops[i]?=some o)(f:o.guard=none)(h:(execOp a.eval o).run P w=.ok (.defer d) w)(k:wpOpsIn (Ay none) n P ops Q rest (({a with defers:=d::a.defers}:Act).put o.dst undef) w):wpOpsIn (Ay none) n P ops Q (i::rest) a w:=by
 rw[wpOpsIn_cons];unfold wpOpIn;simp only[g];rw[if_pos (Ie f)];refine⟨λ_ _=>trivial,?_⟩;show vR _ _ _ _ _ _ _ ((execOp a.eval o).run P w);rw[h];exact k
theorem step_call{f:FuncId}{args:Array Value}{V:Mem}{R:Ending->Mem->Prop}(t:ops[i]?=some o)(u:o.guard=none)(k:(execOp a.eval o).run P w=.ok (.enter f args) w)(z:V.le w)(H:Tri P f args V R)
  (y:∀g V' w',R (.panicked g) V'->As V w V' w'->Q (.panic g) a w') (x:∀v V' w',R (.returned v) V'->As V w V' w'->wpOpsIn (Ay none) n P ops Q rest (a.put o.dst v) w') (j:∀V',¬R .outgrown V'):wpOpsIn (Ay none) n P ops Q (i::rest) a w:=by
 rw[wpOpsIn_cons];unfold wpOpIn;simp only[t];rw[if_pos (Ie u)];refine⟨λ_ _=>trivial,?_⟩;show vR _ _ _ _ _ _ _ ((execOp a.eval o).run P w);rw[k];refine⟨λh=>by simp[Ay,Fence.wide]at h,MJ.2 (F6 (H w z) ?_)⟩;grind
theorem run_callv{c:Call}{fv:Operand}{f:FuncId}{first caps args:Array Value}(k:o.op=.call c)(g:c.callee=.value fv)(t:a.eval fv=.func (.func f) first caps)(h:c.args.map a.eval=args)(u:∀args w,(callFunc f args).run P w=.ok (.enter f args) w):
  (execOp a.eval o).run P w=.ok (.enter f (first++args++caps)) w:=by
 grind[execOp,resolve,Deferred.ofValue,invoke]
def Rec(u:FrameMode)(v:Value)(k:FrameMode):Prop:=
 match u with
 |.panicking ({v:=g,recovered:=false,goexit:=false}::h)=>v=g/\k=.panicking ({v:=g,recovered:=true}::h)
 |_=>v=.nilIface/\k=u
end
section
variable{P:Program}{n:Nat}
theorem OW{F:Fence}{c:Code}{Q t:Exit->Act->List Frame->World->Prop}{a:Act}{cs:List Frame}{w:World}(h:c.wpSIn F n P Q a cs w)(u:∀e a cs w,Q e a cs w->t e a cs w):c.wpSIn F n P t a cs w:=
 λb k z y x g=>let⟨e,j,f,w',l,q,r⟩:=h b k z y x g;⟨e,j,f,w',l,u _ _ _ _ q,r⟩
theorem wpSIn_head{x:Code}:∀{c:Code}{rest:List Code}{Q:Exit->Act->List Frame->World->Prop}{a:Act}{cs:List Frame}{w:World},flat c=x::rest->x.wpSIn (Ay none) n P (Exit.thenS (λa cs w=>CQ none n P (λe z w'=>Q e z cs w') rest a w) Q) a cs w->c.wpSIn (Ay none) n P Q a cs w:=by
 intro c;induction c with
 |seq p q f j=>
  intro rest Q a cs w g h;rw[flat]at g;cases t:flat p with
  |nil=>
   exfalso;have:∀c:Code,flat c≠[]:=λc=>by
    induction c with
    |seq a b u l=>rw[flat];simp[u]
    |_=>simp[flat]
   exact this p t
  |cons y r=>
   rw[t,List.cons_append]at g;obtain⟨rfl,rfl⟩:y=x/\r++flat q=rest:=by
    simp_all
   refine wpSIn_seq (f t (OW h ?_));intro e a cs w k;cases e with
   |normal=>
    refine GX ?_ (MM k);intro e a w k;cases e with
    |normal=>exact wpSIn_of_wpIn rfl (FQ k)
    |_=>exact k
   |_=>exact k
 |_=>
  intro rest Q a cs w g h;rw[flat]at g
  ·injection g with h1 h2
   subst h1;subst h2;refine OW h ?_;intro e a cs w k;cases e with
   |normal=>exact k
   |_=>exact k
  all_goals (intro x y;nofun)
variable{ops:Array Oper}{i:Nat}{o:Oper}{rest:List Nat}{Q:Exit->Act->World->Prop}{a:Act}{w:World}
theorem Rk{f:FuncId}{fn:Func}{x c:Code}{rest:List Code}{id:Nat}{t y:Oper}{args:Array Value}{u:FrameMode}{R:Ending->FrameMode->World->Prop}{at0:Array TypeId}{t3 t6:Nat}(L:P.funcs[f]?=some fn)(X:fn.body=some c)(J:flat c=x::rest)(B:x=.region id #[t,y] false)
  (C:t.op=.call {callee:=.builtin .recover,args:=#[],argTypes:=at0}) (A:t.dst=some t6) (D:t.guard=none) (h1:y.op=.assign (.tmp t6)) (E:y.dst=some t3) (K:y.guard=none) (U:t6<fn.ntmps) (hd:args.size<=fn.ntmps)
  (H:∀(v:Value)(z:FrameMode),Rec u v z->
   CQ none n P (λe j w'=>(e=.normal∨e=.ret)/\j.defers=[]/\∃v,(results fn j.tmps).run P w'=.ok v w'/\R (.returned v) z w') rest ((({tmps:=args++wZ (fn.ntmps-args.size) undef,defers:=[]}:Act).put (some t6) v).put (some t3) v) w):
  CallsDIn (Ay none) n P f args u w R:=by
 refine callsDIn_of_wpSIn L X trivial λk r hu=>?_;refine wpSIn_head J ?_;subst B;refine wpSIn_region ?_;have N:∀a:Act,(execOp a.eval t).run P w=.ok .recover w:=λa=>by
  unfold execOp;simp[C,resolve,invoke,builtin]
 have Z:∀a:Act,(execOp a.eval y).run P w=.ok (.value (a.eval (.tmp t6))) w:=λa=>by
  unfold execOp;simp[h1]
 have I:∀(v:Value)(z:FrameMode)(g:List Frame),Rec u v z->g={k with mode:=z}::r->
   wpOpsSIn (Ay none) n P #[t,y] (Exit.thenS (λa g w=>CQ none n P (λe j w'=>bodyPostS P fn k r R e j g w') rest a w) (bodyPostS P fn k r R)) [1] (({tmps:=args++wZ (fn.ntmps-args.size) undef,defers:=[]}:Act).put t.dst v) g w:=λv z g hv l=>by
  rw[wpOpsSIn.eq_2];simp only[vT,List.getElem?_cons_succ,vU];refine⟨λ_ _=>trivial,?_⟩;have hw:=Ie (ops:=#[t,y]) (a:=(({tmps:=args++wZ (fn.ntmps-args.size) undef,defers:=[]}:Act).put t.dst v)) K;rw[if_pos hw,Z];simp only;rw[wpOpsSIn.eq_1];show CQ none n P (λe j w'=>bodyPostS P fn k r R e j g w') rest _ w;have e:(({tmps:=args++wZ (fn.ntmps-args.size) undef,defers:=[]}:Act).put t.dst v).eval (.tmp t6)=v:=by
   rw[A];exact GJ (a:={tmps:=args++wZ (fn.ntmps-args.size) undef,defers:=[]}) (v:=v) (by simp;omega)
  rw[e,A,E];refine GX ?_ (H v z hv);rintro e j w' ⟨T,h1,Y,h2,h3⟩;rcases T with rfl|rfl;·exact⟨h1,z,l,Y,h2,h3⟩
  ·exact⟨h1,z,l,Y,h2,h3⟩
 show wpOpsSIn _ _ _ _ _ [0,1] _ _ _;rw[wpOpsSIn.eq_2];simp only[vT,vU];refine⟨λ_ _=>trivial,?_⟩;have hw:=Ie (ops:=#[t,y]) (a:=({tmps:=args++wZ (fn.ntmps-args.size) undef,defers:=[]}:Act)) D;simp only at hw;rw[if_pos hw,N];simp only;unfold recoverD;split
 ·rename_i v g h;simp only at h;split at h
  ·rename_i Y O hm;simp only[zG,zY]at h;obtain⟨rfl,rfl⟩:=h;rw[hu]at hm;exact I _ _ _ (by unfold Rec;rw[hm];exact⟨rfl,rfl⟩) rfl
  ·cases h
 ·rename_i h;simp only at h;split at h;·cases h
  ·rename_i hm;refine I _ u _ ?_ (by cases k;simp only at hu;subst hu;rfl);rw[hu]at hm;unfold Rec;split;·exact absurd rfl (hm _ _)
   ·exact⟨rfl,rfl⟩
end
end Go.Sx
namespace Go.Proofs
open Go Go.Sx
set_option maxRecDepth 100000
section
variable{V:Mem}{R:RP}
noncomputable def c138a:List Code:=((AU (Az vV) []).drop 0).take 3
def w138a(a:KB)(b c d g i j k l o:Sl)(p:KB)(q:Sl)(r:Int):MR:=λV R=>TT 190 #[uD a b c d g i j k,uA #[uL l,uL o],uA #[uS p,uL q]] V λe V1=>∃s u y z A B,e=rT #[uA #[uS s,uL u,uS y,uL z,uL A],uI B]/\Ag [uS a,uL b,uL c,uL d,uL g,uL i,uL j,uL k] 30 V1 λC V2=>Ag [uL l,uL o] 45 V2 λD h=>Ag [uS p,uL q] 57 h λF f=>Ag [uP none] 214 f λG t=>Ag [uI 0,uI 0,uI 0,uI 0,uI 0] 62 t λH x=>Ag [uS s,uL u,uS y,uL z,uL A] 142 x λL J=>R (rT #[uI r,uP (Aa C 0),uP (Aa D 0),uP (Aa F 0),uP (Aa G 0),uP (Aa H 0),uI B,uP (Aa L 0),uB (!(decide (B=0)))]) J
theorem s138a{a:KB}{b c d g i j k l o:Sl}{p:KB}{q:Sl}{r:Int}{V:Mem}{R:KZ}(h:w138a a b c d g i j k l o p q r V (OV R)):AI xS 37 c138a [(0,uD a b c d g i j k),(1,uA #[uL l,uL o]),(2,uA #[uS p,uL q]),(3,uI r)] [3,4,5,6,8,9,10,11,20] V R:=
 Cm (H:=hK 37) [(0,(.agg (.cons (.var .s 0) (.cons (.var .sl 1) (.cons (.var .sl 2) (.cons (.var .sl 3) (.cons (.var .sl 4) (.cons (.var .sl 5) (.cons (.var .sl 6) (.cons (.var .sl 7) .nil)))))))))),(1,(.agg (.cons (.var .sl 8) (.cons (.var .sl 9) .nil)))),(2,(.agg (.cons (.var .s 10) (.cons (.var .sl 11) .nil)))),(3,(.var (.i .i64) 12))] [uS a,uL b,uL c,uL d,uL g,uL i,uL j,uL k,uL l,uL o,uS p,uL q,uI r] rfl (by kernel_rfl) h
noncomputable def c138b:List Code:=((AU (Az vV) [3,0]).drop 0).take 1
def w138b(a b:Option Addr)(c:Int):MR:=λV R=>Ak a 0 [uP none] V λV1=>Ak b 0 [uI 0,uI 0,uI 0,uI 0,uI 0] V1 λV2=>R (rT #[uP a,uP b,uI c]) V2
theorem s138b{a b:Option Addr}{c:Int}{V:Mem}{R:KZ}(h:w138b a b c V (OV R)):AI xS 37 c138b [(8,uP a),(9,uP b),(10,uI c)] [8,9,10] V R:=
 Cm (H:=hK 37) [(8,(.var .p 0)),(9,(.var .p 1)),(10,(.var (.i .i64) 2))] [uP a,uP b,uI c] rfl (by kernel_rfl) h
noncomputable def c138c:List Code:=((AU (Az vV) []).drop 4).take 1
def w138c(a:Int)(b c d g i:Option Addr)(j:Int)(k:Option Addr):MR:=λV R=>∃l o p q r s u y,V.rowp b ((0:Int).toNat*1) 8=some [uS l,uL o,uL p,uL q,uL r,uL s,uL u,uL y]/\∃z A,V.rowp c ((0:Int).toNat*1) 2=some [uL z,uL A]/\Ag [uS l,uL o,uL p,uL q,uL r,uL s,uL u,uL y,uL z,uL A,uI a,uI 0,uI 0,uI 0,z0] 218 V λB V1=>Ak g 0 [uP (Aa B 0)] V1 λV2=>R (rT #[uP d,uP g,uP i,uI j,uP k]) V2
theorem s138c{a:Int}{b c d g i:Option Addr}{j:Int}{k:Option Addr}{V:Mem}{R:KZ}(h:w138c a b c d g i j k V (OV R)):AI xS 37 c138c [(3,uI a),(4,uP b),(5,uP c),(6,uP d),(8,uP g),(9,uP i),(10,uI j),(11,uP k)] [6,8,9,10,11] V R:=
 Cm (H:=hK 37) [(3,(.var (.i .i64) 0)),(4,(.var .p 1)),(5,(.var .p 2)),(6,(.var .p 3)),(8,(.var .p 4)),(9,(.var .p 5)),(10,(.var (.i .i64) 6)),(11,(.var .p 7))] [uI a,uP b,uP c,uP d,uP g,uP i,uI j,uP k] rfl (by kernel_rfl) h
noncomputable def Gn:Array Oper:=DF ((AU (Az vV) []).getD 6 .skip)
def w138d(a b c:Option Addr)(d:Int)(g:Option Addr):MR:=λV R=>∃i,V.rowp b ((0:Int).toNat*1) 1=some [uP i]/\∃j k l o p,V.rowp g ((0:Int).toNat*1) 5=some [uS j,uL k,uS l,uL o,uL p]/\¬a=none/\∃q,V.rowp a 1 1=some [uL q]/\R (rT #[uP b,uP c,uI d,uP i,uA #[uS j,uL k,uS l,uL o,uL p],uL q]) V
theorem s138d{a b c:Option Addr}{d:Int}{g:Option Addr}{V:Mem}{R:KZ}(h:w138d a b c d g V (OV R)):AS xS 37 Gn 0 4 [(6,uP a),(8,uP b),(9,uP c),(10,uI d),(11,uP g)] [8,9,10,29,30,32] V R:=
 Bl (H:=hK 37) [(6,(.var .p 0)),(8,(.var .p 1)),(9,(.var .p 2)),(10,(.var (.i .i64) 3)),(11,(.var .p 4))] [uP a,uP b,uP c,uI d,uP g] rfl (by kernel_rfl) h
noncomputable def c138e:Array Oper:=DF ((AU (Az vV) []).getD 6 .skip)
def w138e(a b:Option Addr)(c:Int):MR:=λV R=>¬b=none/\Ak (Aa b 1) 0 [uI c] V λV1=>R (rT #[uP a,uP b]) V1
theorem s138e{a b:Option Addr}{c:Int}{V:Mem}{R:KZ}(h:w138e a b c V (OV R)):AS xS 37 c138e 5 2 [(8,uP a),(9,uP b),(33,uI c)] [8,9] V R:=
 Bl (H:=hK 37) [(8,(.var .p 0)),(9,(.var .p 1)),(33,(.var (.i .i64) 2))] [uP a,uP b,uI c] rfl (by kernel_rfl) h
noncomputable def c138f:List Code:=((AU (Az vV) []).drop 7).take 1
def w138f(a b:Option Addr):MR:=λV R=>∃c,V.rowp a ((0:Int).toNat*1) 1=some [uP c]/\∃d g i j k,V.rowp b ((0:Int).toNat*1) 5=some [uI d,uI g,uI i,uI j,uI k]/\Ak a 0 [uP c] V λV1=>V1.rowp b 0 5=some [uI d,uI g,uI i,uI j,uI k]/\Ak b 0 [uI d,uI g,uI i,uI j,uI k] V1 λV2=>R (rT #[uP a,uP b,uI 0]) V2
theorem s138f{a b:Option Addr}{V:Mem}{R:KZ}(h:w138f a b V (OV R)):AI xS 37 c138f [(8,uP a),(9,uP b)] [8,9,10] V R:=
 Cm (H:=hK 37) [(8,(.var .p 0)),(9,(.var .p 1))] [uP a,uP b] rfl (by kernel_rfl) h
noncomputable def c191a:List Code:=((AU (Az Tryz.f191) []).drop 1).take 5
abbrev w191a_0(o:Sl)(p:Int)(h:Mem)(a:Option Addr)(k:LMP):Prop:=Ix o p (∃q r s,h.rowp o.p (p.toNat*3) 3=some [uI q,uI r,uI s]/\Br (0<r) (¬a=none/\¬(Aa a 2)=none/\∃u,h.rowp a 3 1=some [uI u]/\IR (u+1)/\¬a=none/\¬(Aa a 2)=none/\Ak (Aa a 3) 0 [uI (u+1)] h λg=>IR (p+1)/\k [uI (p+1)] g) (IR (p+1)/\k [uI (p+1)] h))
def w191a(a b:Option Addr)(c:Value):MR:=λV R=>GenK xS (.binOp .neq 20 (.tmp 8) (.const .nilIface) 20) 4 (gv [(8,K.cast .r c)]) V λx V1=>∃d,x=uB d/\Br (d=true) (GenK xS (.typeAssert (.tmp 11) 20 294 true) 295 (gv [(11,K.cast .r c)]) V1 λx V2=>∃g i,x=.tuple #[uA #[uI g],uB i]/\Br (i=true) (¬a=none/\Ak (Aa a 0) 0 [uI g] V2 λh=>∃j,h.rowp b ((0:Int).toNat*1) 1=some [uP j]/\N2 j (∃k,h.rowp j 13 1=some [uI k]/\¬a=none/\¬(Aa a 2)=none/\Ak (Aa a 2) 0 [uI k] h λu=>∃l,u.rowp b ((0:Int).toNat*1) 1=some [uP l]/\N2 l (∃o,u.rowp l 14 1=some [uL o]/\Lp [uI 0] u λI n z=>∀p,I n [uI p] z->∀f:LMP,Nx I n f->Br (p<(o.n:Int)) (w191a_0 o p z a f) (R (rT #[]) z)))) (∃t x,K.cast .r c=.iface t x/\R (.panicked [{v:=.iface t x,recovered:=false}]) V2)) (∃g,V1.rowp b ((0:Int).toNat*1) 1=some [uP g]/\N2 g (∃i,V1.rowp g 13 1=some [uI i]/\¬a=none/\¬(Aa a 2)=none/\Ak (Aa a 2) 0 [uI i] V1 λV2=>∃j,V2.rowp b ((0:Int).toNat*1) 1=some [uP j]/\N2 j (∃k,V2.rowp j 14 1=some [uL k]/\Lp [uI 0] V2 λI n h=>∀l,I n [uI l] h->∀f:LMP,Nx I n f->Br (l<(k.n:Int)) (w191a_0 k l h a f) (R (rT #[]) h))))
theorem s191a{a b:Option Addr}{c:Value}{V:Mem}{R:KZ}(h:w191a a b c V (OV R)):AI xS 46 c191a [(0,uP a),(1,uP b),(2,K.cast .r c)] [] V R:=
 Cm (H:=hK 46) [(0,(.var .p 0)),(1,(.var .p 1)),(2,(.var .r 2))] [uP a,uP b,c] rfl (by kernel_rfl) h
end
end Go.Proofs
