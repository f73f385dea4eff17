/- Part 17: no statement of the seat is proved here. -/
import Derived.Test.YtcebnmieadkjfaaGreatDoorPg16
set_option linter.unusedVariables false
set_option linter.unusedSimpArgs false
open Go.Proofs.Tryz renaming prog->xG,underlying31->vo,underlying3->wo
open Go.Value renaming int->vF
open List renaming replicate->yJ,map_replicate->vp,take_of_length_le->wR,getElem?_eq_getElem->yu,take_add_one->vJ,getElem?_eq_some_iff->yv,mem_of_getElem?->xM,mem_iff_getElem?->vV,length_append->zw,length_singleton->vH,length_map->vX,getD_cons_zero->vQ,getElem?_toArray->w8,getElem?_cons_zero->xV
open Int renaming toNat_natCast->xh
open Nat renaming log2->wx
open Prod.mk renaming inj->vn
open Go.Ending renaming returned->xJ
open Option renaming map_some->zJ
open Option.some renaming injEq->zF
open Array renaming replicate->xd
namespace Go.Proofs
open Go Go.Sx
attribute [local irreducible] Go.Sx.Tri
section
variable{V0 V V1:Mem}{d:Ds}{p F c q:Nat}{s:St}{pr:Pr}{vals:List Int}
def BW(n:Nat)(s:St):Prop:=s.lg.length+s.cm+n<=4000*s.tk
theorem BW.next{n m:Nat}{s s':St}(h:BW (n+m) s)(g:Gr F n s s'):BW m s':=by have:=g.w;unfold BW at*;omega
theorem BW.le{n m:Nat}{s:St}(h:BW n s)(k:m<=n):BW m s:=by unfold BW at*;omega
structure Cx (V0:Mem)(d:Ds)(p F c q:Nat)(pr:Pr)(vals:List Int)(n m:Nat)(V:Mem)(s:St):Prop where
 S:ES V0 d F
 fr:Fv V0 q pr vals
 po:DG d pr
 G:Am d s.mm
 hv:AB d s.mm pr.vars vals=true
 M:EM V0 d p F V s c
 tk:s.tk<=F
 n:F<n+s.tk
 w:BW m s
theorem Cx.fit{n m:Nat}(X:Cx V0 d p F c q pr vals n (m+1) V s):s.lg.length+1<=2147483648:=by
 have h:=X.w;have k:=X.tk;have g:=X.S.fuel;grind[BW]
theorem Cx.next{n m k:Nat}{V':Mem}{s':St}(X:Cx V0 d p F c q pr vals n (m+k) V s)(g:Gr F m s s')(G:Am d s'.mm)(M:EM V0 d p F V' s' c):Cx V0 d p F c q pr vals n k V' s':=
 ⟨X.S,X.fr,X.po,G,Ck (λh=>g.right h) X.hv,M,g.fu X.tk,by have:=g.tk;have:=X.n;omega,X.w.next g⟩
theorem Cx.le{n m k:Nat}(X:Cx V0 d p F c q pr vals n m V s)(h:k<=m):Cx V0 d p F c q pr vals n k V s:=⟨X.S,X.fr,X.po,X.G,X.hv,X.M,X.tk,X.n,X.w.le h⟩
variable(d p F)in
def CallC(n:Nat):Prop:=∀(V0 V:Mem)(s:St)(c i:Nat)(pr:Pr)(args:List Int)(l:Sl),ES V0 d F->d.procs[i]?=some pr->Am d s.mm->AB d s.mm pr.params args=true->Ad V0 l 1 (args.map AE)->EM V0 d p F V s c->s.tk<=F->F<n+s.tk->BW 0 s->
 Tri xG 123 #[pv p,pr.v,l.v] V (PX V0 d p F c (Db d (B8 d F n) c i args s))
variable(d p F)in
def ExprCc(n:Nat):Prop:=∀(e:E)(t:KB)(V0 V:Mem)(s:St)(c q:Nat)(pr:Pr)(vals:List Int),Cx V0 d p F c q pr vals n (AG e) V s->VE e->E.Ok V0 e->Al d (AI d pr) e=(t,0)->
 Tri xG 266 #[pv p,pv q,e.v] V (PX V0 d p F c (Du d (Db d (B8 d F n) c) pr vals e s))
theorem own_made{g n:Nat}(h:V g=none)(k:n<=2147483648):Sx.Own V (V.set g (.cells (madeCells (vF .i64 0).cells (n*1)) 3 (0,0))) 3 1 ⟨some ⟨g,0,none⟩,n,n⟩ ((yJ n (0:Int)).flatMap AE):=by
 have e:(madeCells (vF .i64 0).cells (n*1)).toList=(yJ n (0:Int)).flatMap AE:=by rw[Nat.mul_one,Pl,Ea,vp]
 refine⟨Mem.sub_new h _,by rw[Ea];simp,.inr ⟨g,_,rfl,h,Mem.set_same _ _ _,Nat.le_refl _,by simp only[maxLen];omega,by rw[size_madeCells],?_⟩⟩;grind[wR,Ea]
theorem mk31{ty:Nat}{x y:Operand}{vals:Operand->Value}{n:Nat}(h:vals x=.int .i64 n)(k:vals y=.int .i64 n)(f:n<=2147483648){q:Value->Mem->Prop}(t:∀g,V g=none->q (.slice (sa g) n n) (V.set g (.cells (madeCells (vF .i64 0).cells (n*1)) 3 (0,0)))):GenK xG (.makeSlice 31 x y) ty vals V q:=
 GenK.make (z:=.int .i64 0) (i:=ti 3) vo (by kernel_rfl) (by kernel_rfl) (by kernel_rfl) (of_decide_eq_true (by kernel_rfl)) h k f t
theorem AM.got{α:Type}{n:Nat}{s s':St}{r:Rx α}{v:α}{Q:α->St->Prop}(h:AM d F n s r Q)(e:r=.ok v s'):Am d s'.mm/\Gr F n s s'/\Q v s':=by
 subst e;exact⟨h.good,h.gr,h.q _ _ rfl⟩
theorem callC{n:Nat}(hR:CallC d p F n){e:E}{Y:Pr}{i:Nat}(X:Cx V0 d p F c q pr vals n (AG e) V s)(he:E.Ok V0 e)(O:CallK d (AI d pr) e Y i)(hv:VE e)
  (hE:∀a∈e.k,∀(u:KB)(W V':Mem)(s':St),V0.sub W->Cx W d p F c q pr vals n (AG a) V' s'->Al d (AI d pr) a=(u,0)->Tri xG 266 #[pv p,pv q,a.v] V' (PX W d p F c (Du d (Db d (B8 d F n) c) pr vals a s'))):
  Tri xG 270 #[pv p,pv q,e.v] V (PX V0 d p F c ((seqX (e.k.map (Du d (Db d (B8 d F n) c) pr vals)) [] s).bind λl st=>Db d (B8 d F n) c (i:Int) l st)):=by
 obtain⟨f,B⟩:∃f,f=Du d (Db d (B8 d F n) c) pr vals:=⟨_,rfl⟩;obtain⟨G,hG⟩:∃G:Rx Int,G=(seqX (e.k.map f) [] s).bind λl st=>Db d (B8 d F n) c (i:Int) l st:=⟨_,rfl⟩;rw[<-B,<-hG];have hcs:=Hn X.S.procs (Ho (F:=F) X.S.procs n) c;have snd:∀{a:E}{u:KB}{t:St}{m:Nat},a∈e.k->Al d (AI d pr) a=(u,0)->Am d t.mm->Gr F m s t->AM d F (AG a) t (f a t) λv s'=>AX d s'.mm u v:=λhm ha G1 r=>by
  rw[B];exact ev_snd X.S.procs hcs X.po _ _ _ (hv.kids _ hm) ha G1 (Ck (λh=>r.right h) X.hv)
 have hkn:=KF X.S.procs O.at_;have hsz:=szE_eq e;refine Tri.mono (x270 (R:=PX V0 d p F c G) ?_) λ_ _ h=>h;refine DB (mk:=λs:Sl=>.slice s.p s.n s.c) (b0:=⟨none,0,0⟩) AT e.k.length (λj sl V1=>∃W acc t,V0.sub W/\Sx.Own V0 W 3 1 sl (acc.flatMap AE)/\EM W d p F V1 t c/\acc.length=j/\Am d t.mm/\Gr F ((e.k.take j).map AG).sum s t/\AB d t.mm (Y.params.take j) acc=true/\
   seqX (e.k.map f) [] s=seqX ((e.k.drop j).map f) acc t) ⟨V0,[],s,Mem.sub.refl _,Own.nil (Mem.sub.refl _) _ _,X.M,rfl,X.G,by simpa using Gr.refl s,Dk.2 ⟨rfl,λj f v h=>by simp at h⟩,rfl⟩ ?_
 rintro j sl V1 J hj ⟨W,acc,t,x,ho,M1,hacc,G1,r,C,z⟩ hJ;have D:=(he.sub x).sub M1.sub;refine⟨λK=>?_,λhge=>?_⟩
 ·obtain⟨a,ham,ha,hdr,hjl,hp,hz,N⟩:=D.rows.get K;have hjp:j<Y.params.length:=by rw[<-O.len];exact hjl
  obtain⟨u,hu,hfit⟩:=O.fit j a _ ha (yu hjp);have hsum:((e.k.take (j+1)).map AG).sum=((e.k.take j).map AG).sum+AG a:=by grind
  have hall:((e.k.take (j+1)).map AG).sum<=(e.k.map AG).sum:=by
   have:=congrArg (λl=>(l.map AG).sum) (List.take_append_drop (j+1) e.k);grind
  have X1:Cx W d p F c q pr vals n (AG a) V1 t:=by
   have X':=X.le (k:=((e.k.take j).map AG).sum+AG a) (by omega);refine⟨X.S.sub x,?_,X.po,G1,Ck (λh=>r.right h) X.hv,M1,r.fu X.tk,by have:=r.tk;have:=X.n;omega,X'.w.next r⟩;obtain⟨a',b',h1,h2,h3⟩:=X.fr.ex;exact⟨a',b',x _ _ h1,h2.sub x,h3.sub x⟩
  rw[hdr,List.map_cons]at z;have Z:seqX (e.k.map f) [] s=(f a t).bind λv st=>seqX ((e.k.drop (j+1)).map f) (acc++[v]) st:=z;refine⟨hp,hz,K,_,_,_,_,N,?_⟩;have H:=hE a ham u W V1 t x X1 hu;rw[<-B]at H;refine PX.split H (λk s2 c' V2 I A=>?_) λv s2 V2 I A=>λtb htb=>?_
  ·rw[hG,Z,I];exact⟨rfl,c',A.narrow x⟩
  obtain⟨G2,g2,hv2⟩:=(snd ham hu G1 r).got I;have hlen:acc.length<=2000:=by
   have hl:=lens_of_args X.S.procs O.at_;omega
  have ho2:Sx.Own V0 V2 3 1 sl (acc.flatMap AE):=Own.moveB ho (x.trans A.sub) λg cur _ hg=>A.sub _ _ hg;refine app31 (s:=sl) (u:=⟨some ⟨tb,0,none⟩,1,1⟩) (xs:=acc) (ys:=[v]) rfl rfl (ho2.but.new htb (.cells #[.int .i64 v] 3 (0,0))) (H4 Ao) (by simp;omega) λo3 V3 ho3=>⟨o3,rfl,D.rows.succ K,?_⟩;obtain⟨W',hW',M3,ho4⟩:=A.beside x ho ho3;refine hJ hjl _ _ ⟨W',acc++[v],s2,hW',ho4,M3,by simp_all,G2,by rw[hsum];exact r.trans g2,?_,by rw[Z,I];rfl⟩;rw[vJ,yu hjp];refine Jg (Ck (λh=>g2.right h) C) (Dk.2 ⟨rfl,λk f w B hw=>?_⟩);cases k with
  |zero=>
   simp at B hw;subst B;subst hw;exact(E7 X.S.valid (hkn _ (List.getElem_mem _))).1 (EF X.S.valid hfit hv2)
  |succ k=>simp at B
 ·have T:=(D.rows.done hge).2;rw[wR T]at r;rw[wR (by rw[<-O.len];exact T)]at C;rw[List.drop_eq_nil_of_le T]at z;have hG1:G=Db d (B8 d F n) c (i:Int) acc t:=by rw[hG,z];rfl
  obtain⟨gs,ns,ls,nd,U,L⟩:=M1.ex;have hd:=(X.S.sub x).ds.sub L.sub;refine⟨nn,nn,Bc,d.ps,An U 3 1 (by simp[AH]),nn,nn,d.name,d.ts,d.gs,d.ps,d.ms,d.is,d.qs,d.bs,An U 0 8 (by simp[AH]),(c166 hd).call ⟨_,rfl,DR U 3 0 1 (by simp[AH]),Bc,nn,nn,?_⟩⟩;rw[O.idx];have hn:=hd.procs.n_eq;have hil:=(yv.1 O.at_).1;obtain⟨y,-,hy,-,-,hp,hz,N⟩:=hd.procs.get (i:=i) (by omega);rw[O.at_]at hy;cases hy;have X':=X.le (k:=(e.k.map AG).sum+0) (by omega);refine⟨hp,hz,by omega,_,_,_,_,_,N,PX.split (hR W V1 t c i Y acc sl (X.S.sub x) O.at_ G1 C (ho.rows (λ_=>rfl) (by decide)) M1 (r.fu X.tk) (by have:=r.tk;have:=X.n;omega) (X'.w.next r)) (λk s2 c' V2 I A=>?_) λv s2 V2 I A=>?_⟩;·rw[hG1,I];exact⟨rfl,c',A.narrow x⟩
  ·rw[hG1,I];exact⟨rfl,A.narrow x⟩
end
section
variable{V0 V V1:Mem}{d:Ds}{p F c q:Nat}{s:St}{pr:Pr}{vals:List Int}
theorem H7{V:Mem}{gs:Sl}{l:List Int}(h:Ad V gs 1 (l.map AE)){i:Nat}{v:Int}(hv:l[i]?=some v):¬gs.p=none/\(0:Int)<=(i:Int)/\(i:Int)<(gs.n:Int)/\V.rowp gs.p (i*1) 1=some [.int .i64 v]:=by
 have z:=h.n_eq;have x:=(yv.1 hv).1;obtain⟨y,-,g,-,f,t,u,k⟩:=h.get (i:=i) (by omega);rw[hv]at g;cases g;exact⟨t,u,by omega,k⟩
theorem nodeAt(M:EM V0 d p F V s c){k i:Nat}{ty v:Int}{fs:List Int}(z:s.ns[k]?=some (ty,fs))(hv:fs[i]?=some v):∃gs ns ls nd sl,V p=some (.cells (AH d F s.tk c s.cm gs ns ls).toArray 89 (0,0))/\AL V0 V gs ns ls nd s/\nd[k]?=some ⟨ty,sl,fs⟩/\IR (k:Int)/\
  ¬ns.p=none/\(0:Int)<=(k:Int)/\(k:Int)<(ns.n:Int)/\V.rowp ns.p (k*2) 2=some [.int .i64 ty,.slice sl.p sl.n sl.c]/\¬sl.p=none/\(0:Int)<=(i:Int)/\(i:Int)<(sl.n:Int)/\V.rowp sl.p (i*1) 1=some [.int .i64 v]:=by
 obtain⟨gs,ns,ls,nd,t,L⟩:=M.ex;have g:=L.nodes.rows (λ_=>rfl) (by decide);have x:=g.n_eq;obtain⟨sl,h⟩:=L.at_ z;have j:=(yv.1 h).1;obtain⟨y,-,u,-,-,l,r,f⟩:=g.get (i:=k) (by omega);rw[h]at u;cases u;have e:IR ((k:Int)):=⟨by omega,by have:=(g.succ (i:=k) (by omega)).2;omega⟩;obtain⟨H,J,N,Z⟩:=H7 ((L.fld _ (xM h)).rows (λ_=>rfl) (by decide)) hv;exact⟨gs,ns,ls,nd,sl,t,L,h,e,l,r,by omega,f,H,J,N,Z⟩
theorem exprCc{n:Nat}(hR:CallC d p F n):ExprCc d p F n:=by
 intro e;induction e using E.ind with
 |h e ih=>
 intro t V0 V s c q pr vals X hv he ht;obtain⟨gs,ns,ls,nd,hat,L⟩:=X.M.ex;obtain⟨fa,fb,hq0,hra0,hrb0⟩:=X.fr.ex;have hq:=L.sub _ _ hq0;have hd:=X.S.ds.sub L.sub;have heV:=he.sub L.sub;obtain⟨f,hf⟩:∃f,f=Du d (Db d (B8 d F n) c) pr vals:=⟨_,rfl⟩;obtain⟨G,Y⟩:∃G:Rx Int,G=C6 d (Db d (B8 d F n) c) pr vals (intB d (AI d pr) e.k) e.op e.n e.s (e.k.map f) s:=⟨_,rfl⟩;rw[evX_eq,<-hf,<-Y];have hcs:=Hn X.S.procs (Ho (F:=F) X.S.procs n) c;have hsz:=szE_eq e;have K:∀{i:Nat}{a:E},e.k[i]?=some a->BN (e.k.map f) i=f a:=λh=>kidX_at h;have kid:∀{i:Nat}{a:E}{u:KB}{V1:Mem}{U:St},e.k[i]?=some a->Al d (AI d pr) a=(u,0)->Cx V0 d p F c q pr vals n (AG a) V1 U->Tri xG 266 #[pv p,pv q,.agg #[.int .i64 a.op,.int .i64 a.n,.string a.s,.slice a.l.p a.l.n a.l.c]] V1 (PX V0 d p F c (f a U)):=λ{i a u V1 U} z J I=>by
  have hm:=xM z;rw[hf];exact ih a hm u V0 V1 U c q pr vals I (hv.kids a hm) (he.kids a hm) J
 have go:∀{i:Nat}{a:E}{u:KB}{U s2:St}{V1 V2:Mem}{m k:Nat}{v:Int},e.k[i]?=some a->Al d (AI d pr) a=(u,0)->Cx V0 d p F c q pr vals n m V1 U->AG a+k<=m->f a U=.ok v s2->EM V0 d p F V2 s2 c->Cx V0 d p F c q pr vals n k V2 s2/\AX d s2.mm u v:=λ{i a u U s2 V1 V2 m k v} z J I hm e2 M2=>by
  have hmem:=xM z;have P:=ev_snd X.S.procs hcs X.po a u U (hv.kids a hmem) J I.G I.hv;rw[hf]at e2;obtain⟨G2,g2,q2⟩:=P.got e2;exact⟨(I.le hm).next g2 G2 M2,q2⟩
 have s1':∀{a:E},e.k=[a]->AG e=AG a+1:=λh=>by rw[hsz,h];simp;omega
 have s2':∀{a b:E},e.k=[a,b]->AG e=AG a+AG b+1:=λh=>by rw[hsz,h];simp;omega
 have s3':∀{a b c:E},e.k=[a,b,c]->AG e=AG a+AG b+AG c+1:=λh=>by rw[hsz,h];simp;omega
 refine Tri.mono (x266 (R:=PX V0 d p F c G) ?_) λ_ _ h=>h;have two:∀{a b:E}{u w':KB},(9<=e.op/\e.op<=23/\e.op≠18/\e.op≠19/\e.op≠20/\e.op≠21)->e.k=[a,b]->Al d (AI d pr) a=(u,0)->Al d (AI d pr) b=(w',0)->(e.op≠14->e.op≠15->u=Ai/\w'=Ai)->
   w266 (sa p) (sa q) e.op e.n e.s e.l V (PX V0 d p F c G):=by
  intro a b u w' h N J T hint;have z:e.k[0]?=some a:=by rw[N];rfl
  have C:e.k[1]?=some b:=by rw[N];rfl
  have Z:=Y;rw[cXTwo h,K z,K C]at Z;obtain⟨k1,k2,k3,k4⟩:=Dl heV z;unfold w266;have hs:=s2' N;refine Av (by omega) (Av (by omega) (Av (by omega) (Av (by omega) (Av (by omega) (Av (by omega) (Av (by omega) (Av (by omega) (Av (by omega) (Av (by omega) (Av (by omega) (Av (by omega) (Av (by omega) ?_))))))))))));refine⟨k1,by decide,k3,_,_,_,_,k4,PX.bind Z (kid z J (X.le (by omega))) λv U V1 e1 A H=>?_⟩;obtain⟨I,r⟩:=go (k:=AG b+1) z J X (by omega) e1 A;obtain⟨l1,l2,l3,l4⟩:=Dl (he.sub A.sub) C;refine⟨l1,by decide,l3,_,_,_,_,l4,PX.bind H (kid C T (I.le (by omega))) λw s2 V2 e2 M2 hG2=>?_⟩;obtain⟨X2,hv2⟩:=go (k:=1) C T I (by omega) e2 M2;have g2:=((ev_snd X.S.procs hcs X.po b w' U (hv.kids b (xM C)) T I.G I.hv).got (by rw[hf]at e2;exact e2)).2.1;have r:=g2.val r;obtain⟨gs2,ns2,ls2,Gz,O,L2⟩:=M2.ex;obtain⟨m1,m2,m3,m4⟩:=Dl (he.sub M2.sub) z;have hcm:s2.cm+1<=16000000:=by have C:=X2.w;have h2:=X2.tk;have h3:=X2.S.fuel;unfold BW at C;omega
  have hib:intB d (AI d pr) e.k=decide (u=Ai):=by rw[N];show decide ((Al d (AI d pr) a).1=Ai)=_;rw[J]
  rw[hib]at hG2;have ty:=typC (F:=F) X2.S M2 X2.fr X2.po X2.G X2.hv a u (hv.kids a (xM z)) (he.kids a (xM z)) J;have hM:EM V0 d p F (V2.set p (.cells (AH d F s2.tk c ((s2.cm+1:Nat):Int) gs2 ns2 ls2).toArray 89 (0,0))) {s2 with cm:=s2.cm+1} c:=MA.set (row':=AH d F s2.tk c ((s2.cm+1:Nat):Int)) Fb M2.p0 O L2 rfl rfl rfl rfl;have yes:∀{x:Int},(e.op=16∨e.op=17∨((e.op=14∨e.op=15)/\u=Ai))->A4 e.op v w=.ok x->G=.ok x {s2 with cm:=s2.cm+1}:=λhc hx=>by
   rw[hG2,hx];unfold cntX;rw[if_pos (by simpa using hc)];rfl
  have no:∀{x:Int},¬(e.op=16∨e.op=17∨((e.op=14∨e.op=15)/\u=Ai))->A4 e.op v w=.ok x->G=.ok x s2:=λhc hx=>by
   rw[hG2,hx];unfold cntX;rw[if_neg (by simpa using hc)];rfl
  have eqB:∀{x:Bool},(e.op=14∨e.op=15)->A4 e.op v w=.ok (Dq x)->((decide (v=w))==(decide (e.op=14)))=x->_:=λ{x} ho hx T=>by
   refine(⟨m1,by decide,m3,_,_,_,_,m4,ty.call ⟨_,rfl,λhi=>⟨nn,nn,_,An O 13 1 (by simp[AH]),⟨by omega,by omega⟩,nn,nn,As.at2 (off:=13) O (by simp[AH]) ?_⟩,λhi=>?_⟩⟩:¬e.l.p=none/\(0:Int)<=(0:Int)/\0<(e.l.n:Int)/\∃v16 v17 v18 v19,V2.rowp e.l.p ((0:Int).toNat*4) 4=some [uI v16,uI v17,uS v18,uL v19]/\
    TT 289 #[uP (sa p),uP (sa q),uA #[uI v16,uI v17,uS v18,uL v19]] V2 λe' V3=>∃v20,e'=rV (uS v20)/\
    Br (v20=(Ab [105,110,116]))
    (¬(some (⟨p,0,none⟩:Addr))=none/\¬(some (⟨p,0,none⟩:Addr))=none/\∃v21,V3.rowp (sa p) ((13:Int).toNat*1) 1=some [uI v21]/\
    IR (v21+1)/\¬(some (⟨p,0,none⟩:Addr))=none/\¬(some (⟨p,0,none⟩:Addr))=none/\As (Aa (sa p) 13) 0 [uI (v21+1)] V3 λV4=>
    TT 290 #[uB ((decide (v=w))==(decide (e.op=14)))] V4 λe' V5=>∃v22,e'=rV (uI v22)/\PX V0 d p F c G (rV (uI v22)) V5)
    (TT 290 #[uB ((decide (v=w))==(decide (e.op=14)))] V3 λe' V4=>∃v21,e'=rV (uI v21)/\PX V0 d p F c G (rV (uI v21)) V4))
   ·rw[T];exact c290.call ⟨_,rfl,PX.ok (yes (.inr (.inr ⟨ho,hi⟩)) hx) hM⟩
   ·rw[T];exact c290.call ⟨_,rfl,PX.ok (no (λk=>k.elim (λk=>by omega) λk=>k.elim (λk=>by omega) λk=>hi k.2) hx) M2⟩
  have cmB:∀{x:Bool},(e.op=16∨e.op=17)->A4 e.op v w=.ok (Dq x)->(¬(some (⟨p,0,none⟩:Addr))=none/\¬(some (⟨p,0,none⟩:Addr))=none/\∃v16,V2.rowp (sa p) ((13:Int).toNat*1) 1=some [uI v16]/\
    IR (v16+1)/\¬(some (⟨p,0,none⟩:Addr))=none/\¬(some (⟨p,0,none⟩:Addr))=none/\As (Aa (sa p) 13) 0 [uI (v16+1)] V2 λV3=>
    TT 290 #[uB x] V3 λe' V4=>∃v17,e'=rV (uI v17)/\PX V0 d p F c G (rV (uI v17)) V4):=λ{x} ho hx=>
   ⟨nn,nn,_,An O 13 1 (by simp[AH]),⟨by omega,by omega⟩,nn,nn,As.at2 (off:=13) O (by simp[AH]) (c290.call ⟨_,rfl,PX.ok (yes (by omega) hx) hM⟩)⟩
  refine⟨λh14=>eqB (x:=decide (v=w)) (.inl h14) ?_ ?_,λh14=>⟨λh15=>eqB (x:=!decide (v=w)) (.inr h15) ?_ ?_,λh15=>⟨λh16=>cmB (.inl h16) ?_,λh16=>⟨λh17=>cmB (.inr h17) ?_,λh17=>?_⟩⟩⟩⟩;·rw[show e.op=14 from h14];rfl
  ·rw[decide_eq_true (show e.op=14 from h14)];cases decide (v=w)<;>rfl
  ·rw[show e.op=15 from h15];rfl
  ·rw[decide_eq_false (show ¬e.op=14 from h14)];cases decide (v=w)<;>rfl
  ·rw[show e.op=16 from h16];rfl
  ·rw[show e.op=17 from h17];rfl
  ·have h14:¬e.op=14:=h14;have h15:¬e.op=15:=h15;have h16:¬e.op=16:=h16;have h17:¬e.op=17:=h17;obtain⟨rfl,rfl⟩:=hint h14 h15;refine PB.last (s:=s2) ?_ M2 (c291 (by omega) (C5.1 r) (C5.1 hv2));rw[hG2];unfold cntX;rw[if_neg (by omega)]
 have hkind:=kindX (sc:=AI d pr) rfl hv ht;cases hkind with
 |int h hn=>
  unfold w266;exact AZ h (PX.ok (Y.trans (Jc (.inl h))) X.M)
 |bool h hn=>
  unfold w266;exact Av (by omega) (AZ h (PX.ok (Y.trans (Jc (.inr h))) X.M))
 |nil h hn=>
  unfold w266;repeat refine Av (h▸(by decide)) ?_
  exact AZ h (PX.ok (Y.trans (Mt h)) X.M)
 |var h hl hne=>
  unfold w266;have Z:=Y.trans (Mu h);have hra:=hra0.sub L.sub;repeat refine Av (h▸(by decide)) ?_
  refine AZ h ⟨nn,nn,fa,An hq 0 1 (by simp),(c267 hra).call ⟨_,rfl,?_⟩⟩;have hvg:=(BX X.G.mem).2.2.2.1;rcases H6 X.G X.hv X.po.vars hl hne with⟨i,g,v,C,h2,h3,h4,-,h6⟩|⟨i,g,v,z,C,h2,h3,h4,-,h6⟩
  ·rw[C];obtain⟨g1,g2,g3,g4⟩:=H7 (hrb0.sub L.sub) h3;exact AZ (by omega) ⟨nn,nn,fb,An hq 1 1 (by simp),g1,g2,g3,_,g4,PX.ok (Z.trans h6) X.M⟩
  ·rw[z];have I:=X.le (k:=1) (by omega);refine Av (by decide) ⟨nn,nn,Bc,d.gs,An hat 2 1 (by simp[AH]),(c267 hd.globals).call ⟨_,rfl,?_⟩⟩;rw[C];refine Tri.mono (c268 X.M (Cx.fit (m:=0) I)) ?_;rintro _ V3 ⟨rfl,M3⟩;obtain⟨gs3,ns3,ls3,nd3,D,L3⟩:=M3.ex;obtain⟨g1,g2,g3,g4⟩:=H7 (L3.glob.rows (λ_=>rfl) (by decide)) (i:=i) (v:=v) h3;exact⟨rfl,nn,nn,Bc,gs3,An D 8 1 (by simp[AH]),g1,g2,g3,_,g4,PX.ok (Z.trans h6) M3⟩
 |@fld _ u a h N J hf'=>
  unfold w266;have z:e.k[0]?=some a:=by rw[N];rfl
  have Z:=Y;rw[Mv h,K z]at Z;obtain⟨k1,k2,k3,k4⟩:=Dl heV z;have hs:=s1' N;repeat refine Av (h▸(by decide)) ?_
  refine AZ h ⟨k1,by decide,k3,_,_,_,_,k4,PX.bind Z (kid z J (X.le (by omega))) λv U V1 e1 A H=>?_⟩;obtain⟨I,r⟩:=go (k:=1) z J X (by omega) e1 A;refine⟨λB=>Fc (PX.bad ?_ A),λB=>?_⟩;·rw[H];unfold fldX;rw[if_pos (show v=0 from B)]
  have B:¬v=0:=B;obtain⟨k,i,j,tt,g,fs,w,rfl,e2,e3,e4,e5,e6,e7,e8,e9,-⟩:=Jj I.G hf' r B;refine(c269 X.S A e2 e3).call ⟨_,rfl,?_⟩;rw[e6];refine Tri.mono (c268 A (Cx.fit (m:=0) I)) ?_;rintro _ V3 ⟨rfl,M3⟩;obtain⟨gs3,ns3,ls3,nd3,sl3,D,L3,-,hI,n1,n2,n3,n4,m1,m2,m3,m4⟩:=nodeAt M3 (k:=k) (i:=i) e2 e8;rw[show((k:Int)+1-1)=(k:Int)by omega];refine⟨rfl,nn,nn,Bc,ns3,An D 9 1 (by simp[AH]),hI,n1,n2,n3,Ah n1,_,_,n4,m1,m2,m3,_,m4,PX.ok ?_ M3⟩;rw[H];unfold fldX;rw[if_neg B,show((k:Int)+1-1).toNat=k by omega,e2];simp only;rw[e5,e6,xh,e8];rfl
 |new h hn=>
  unfold w266;have Z:=Y.trans (Mw h);repeat refine Av (h▸(by decide)) ?_
  have hnn:=(L.nodes.rows (λ_=>rfl) (by decide)).n_eq;have hlen:=L.len;refine AZ h ⟨nn,nn,Bc,ns,An hat 9 1 (by simp[AH]),λhl=>Fc (PX.bad ?_ X.M),λhl=>?_⟩
  ·have hl:4096<=(ns.n:Int):=hl;rw[Z];unfold newX;rw[if_pos (by omega)]
  have hl:¬4096<=(ns.n:Int):=hl;obtain⟨tt,htm,hte⟩:=List.any_eq_true.1 hn;have hte:tt.name=e.s:=of_decide_eq_true hte;obtain⟨j,hj⟩:=vV.1 htm;have hidx:Bt d e.s=(j:Int):=hte▸(E8 (BX X.G.mem).1).2.1 j tt hj;have hfo:BV d (j:Int)=tt.fields:=En hj rfl;refine(c287 X.S X.M).call ⟨_,rfl,?_⟩;rw[hidx];have htn:=hd.types.n_eq;have hjl:=(yv.1 hj).1;obtain⟨y,-,hy,-,-,hp,B,hrow⟩:=hd.types.get (i:=j) (by omega);rw[hj]at hy;cases hy;have hfn:=(hd.typesOk tt htm).fields.n_eq;have hfl:=(lens12 X.S.valid).2 tt htm;refine⟨nn,nn,Bc,ns,An hat 9 1 (by simp[AH]),nn,nn,Bc,d.ts,An hat 1 1 (by simp[AH]),hp,B,by omega,Ah hp,_,_,hrow,mk31 (n:=tt.fs.n) rfl rfl (by omega) λg hg=>⟨⟨some ⟨g,0,none⟩,tt.fs.n,tt.fs.n⟩,rfl,?_⟩⟩;obtain⟨V2,hV2⟩:∃V2,V2=V.set g (.cells (madeCells (vF .i64 0).cells (tt.fs.n*1)) 3 (0,0)):=⟨_,rfl⟩;have hown:=own_made hg (n:=tt.fs.n) (by omega);rw[<-hV2]at hown⊢;have O:=hown.sub _ _ hat;refine⟨DR O 9 0 1 (by simp[AH]),Bc,nn,nn,DR O 9 0 1 (by simp[AH]),Bc,nn,nn,λtb htb=>?_⟩;refine L.new (n:=⟨(j:Int),⟨some ⟨g,0,none⟩,tt.fs.n,tt.fs.n⟩,yJ tt.fs.n 0⟩) hown htb rfl rfl (by omega) λs3 V3 L3 hk3=>⟨s3,rfl,nn,nn,Bc,?_⟩;have D:=hk3 _ _ O (notBlk hat Fb L.nodes (.inr (.inl rfl)));refine As.at2 (off:=9) D (by simp[AH]) ?_;have M4:EM V0 d p F (V3.set p (.cells (AH d F s.tk c s.cm gs s3 ls).toArray 89 (0,0))) {s with ns:=s.ns++[((j:Int),yJ tt.fs.n 0)]} c:=
   ⟨X.M.p0,gs,s3,ls,nd++[_],Mem.set_same _ _ _,L3.put (Jk D Fb) X.M.p0 _⟩
  have hn3:=(L3.nodes.rows (λ_=>rfl) (by decide)).n_eq;rw[zw,vH]at hn3;show ¬(some (⟨p,0,none⟩:Addr):Option Addr)=none/\_;refine⟨nn,nn,Bc,s3,An Ao 9 1 (by simp[AH]),?_⟩;rw[show((s3.n:Nat):Int)=(s.ns.length:Int)+1 by omega];have hfit:s.lg.length+1<=2147483648:=Cx.fit (m:=0) (X.le (k:=0+1) (by omega));refine Tri.mono (c268 M4 hfit) ?_;rintro _ V7 ⟨rfl,M7⟩;obtain⟨gs7,ns7,ls7,nd7,hat7,L7⟩:=M7.ex;have hn7:=(L7.nodes.rows (λ_=>rfl) (by decide)).n_eq;have hl7:=L7.len;have hl7:nd7.length=(s.ns++[((j:Int),yJ tt.fs.n 0)]).length:=hl7;rw[zw,vH]at hl7;refine⟨rfl,nn,nn,Bc,ns7,An hat7 9 1 (by simp[AH]),?_⟩;rw[show((ns7.n:Nat):Int)=(s.ns.length:Int)+1 by omega];refine PX.ok ?_ M7;rw[Z];unfold newX;rw[if_neg (by omega),hidx,hfo,<-hfn];rfl
 |@call pr' i h hc hr=>
  unfold w266;have Z:=Y.trans (Jd h);rw[hc.idx]at Z;repeat refine Av (h▸(by decide)) ?_
  refine AZ h (PX.last Z ?_);rw[hf];refine callC hR X he hc hv λa hm u W V' s' hW X' J=>?_;exact ih a hm u W V' s' c q pr vals X' (hv.kids a hm) ((he.kids a hm).sub hW) J
 |@neg a h N J=>
  unfold w266;have z:e.k[0]?=some a:=by rw[N];rfl
  have Z:=Y;rw[Mx h,K z]at Z;obtain⟨k1,k2,k3,k4⟩:=Dl heV z;have hs:=s1' N;repeat refine Av (h▸(by decide)) ?_
  refine AZ h ⟨k1,by decide,k3,_,_,_,_,k4,PX.bind Z (kid z J (X.le (by omega))) λv U V1 e1 A H=>?_⟩;obtain⟨I,r⟩:=go (k:=1) z J X (by omega) e1 A;have:=C5.1 r;rw[<-Int.zero_sub]at H;exact⟨⟨by omega,by omega⟩,PB.last H A c288⟩
 |@not a h N J=>
  unfold w266;have z:e.k[0]?=some a:=by rw[N];rfl
  have Z:=Y;rw[cX18 h,K z]at Z;obtain⟨k1,k2,k3,k4⟩:=Dl heV z;have hs:=s1' N;repeat refine Av (h▸(by decide)) ?_
  refine AZ h ⟨k1,by decide,k3,_,_,_,_,k4,PX.bind Z (kid z J (X.le (by omega))) λv U V1 e1 A H=>?_⟩;obtain⟨I,r⟩:=go (k:=1) z J X (by omega) e1 A;have:=Da.1 r;exact⟨⟨by omega,by omega⟩,PX.ok H A⟩
 |@log a h N J=>
  unfold w266;have z:e.k[0]?=some a:=by rw[N];rfl
  have Z:=Y;rw[cX24 h,K z]at Z;obtain⟨k1,k2,k3,k4⟩:=Dl heV z;have hs:=s1' N;repeat refine Av (h▸(by decide)) ?_
  refine AZ h ⟨k1,by decide,k3,_,_,_,_,k4,PX.bind Z (kid z J (X.le (by omega))) λv U V1 e1 A H=>?_⟩;obtain⟨I,r⟩:=go (k:=1) z J X (by omega) e1 A;have hr:=C5.1 r;refine GenK.max2 rfl rfl ⟨_,rfl,?_⟩;obtain⟨w,hw⟩:∃w:Nat,(if(1:Int)<v then v else 1)=(w:Int):=⟨(if(1:Int)<v then v else 1).toNat,by split<;>omega⟩;rw[hw];have hw1:1<=w/\(w:Int)<=1099511627776:=by split at hw<;>omega
  have T:wx w<64:=(Nat.log2_lt (by omega)).2 (by omega);have hlen:CK w=(wx w:Int)+1:=by unfold CK;rw[if_neg (by omega)]
  refine⟨Hl _ (by omega),(c140 (by omega)).call ⟨_,rfl,?_⟩⟩;rw[hlen];refine⟨⟨by omega,by omega⟩,PX.ok ?_ A⟩;rw[H];have:logV v=(wx w:Int):=by
   unfold logV;by_cases r:1<v;·rw[if_pos r]at hw;rw[hw,xh]
   ·rw[if_neg r]at hw;have:w=1:=by omega
    subst this;have:v.toNat=0∨v.toNat=1:=by omega
    rcases this with h|h<;>rw[h]<;>rfl
  rw[this,show(wx w:Int)+1-1=(wx w:Int)by omega]
 |@and a b h N J T=>
  unfold w266;have z:e.k[0]?=some a:=by rw[N];rfl
  have C:e.k[1]?=some b:=by rw[N];rfl
  have Z:=Y;rw[cX19 h,K z,K C]at Z;obtain⟨k1,k2,k3,k4⟩:=Dl heV z;have hs:=s2' N;repeat refine Av (h▸(by decide)) ?_
  refine AZ h ⟨k1,by decide,k3,_,_,_,_,k4,PX.bind Z (kid z J (X.le (by omega))) λv U V1 e1 A H=>?_⟩;obtain⟨I,r⟩:=go (k:=AG b) z J X (by omega) e1 A;obtain⟨l1,l2,l3,l4⟩:=Dl (he.sub A.sub) C;refine⟨λB=>PX.ok ?_ A,λB=>⟨l1,by decide,l3,_,_,_,_,l4,PX.last ?_ (kid C T I)⟩⟩;·rw[H,if_pos (show v=0 from B)]
  ·rw[H,if_neg (show ¬v=0 from B)]
 |@or a b h N J T=>
  unfold w266;have z:e.k[0]?=some a:=by rw[N];rfl
  have C:e.k[1]?=some b:=by rw[N];rfl
  have Z:=Y;rw[cX20 h,K z,K C]at Z;obtain⟨k1,k2,k3,k4⟩:=Dl heV z;have hs:=s2' N;repeat refine Av (h▸(by decide)) ?_
  refine AZ h ⟨k1,by decide,k3,_,_,_,_,k4,PX.bind Z (kid z J (X.le (by omega))) λv U V1 e1 A H=>?_⟩;obtain⟨I,r⟩:=go (k:=AG b) z J X (by omega) e1 A;obtain⟨l1,l2,l3,l4⟩:=Dl (he.sub A.sub) C;have r:=Da.1 r;refine⟨λB=>PX.ok ?_ A,λB=>⟨l1,by decide,l3,_,_,_,_,l4,PX.last ?_ (kid C T I)⟩⟩
  ·have B:v=1:=B;rw[H,if_neg (by omega)]
  ·have B:¬v=1:=B;rw[H,if_pos (by omega)]
 |@cond a b c' _ u w h N J T hc hu hw _=>
  unfold w266;have z:e.k[0]?=some a:=by rw[N];rfl
  have C:e.k[1]?=some b:=by rw[N];rfl
  have h2:e.k[2]?=some c':=by rw[N];rfl
  have Z:=Y;rw[cX21 h,K z,K C,K h2]at Z;obtain⟨k1,k2,k3,k4⟩:=Dl heV z;have hs:=s3' N;repeat refine Av (h▸(by decide)) ?_
  refine AZ h ⟨k1,by decide,k3,_,_,_,_,k4,PX.bind Z (kid z J (X.le (by omega))) λv U V1 e1 A H=>?_⟩;obtain⟨I,r⟩:=go (k:=AG b+AG c') z J X (by omega) e1 A;obtain⟨l1,l2,l3,l4⟩:=Dl (he.sub A.sub) C;obtain⟨m1,m2,m3,m4⟩:=Dl (he.sub A.sub) h2;have r:=Da.1 r;refine⟨λB=>⟨l1,by decide,l3,_,_,_,_,l4,PX.last ?_ (kid C T (I.le (by omega)))⟩,λB=>⟨m1,by decide,m3,_,_,_,_,m4,PX.last ?_ (kid h2 hc (I.le (by omega)))⟩⟩
  ·have B:v=1:=B;rw[H,if_neg (by omega)]
  ·have B:¬v=1:=B;rw[H,if_pos (by omega)]
 |@eq a b u w h N J T hf'=>exact two (by omega) N J T λ_ _=>by omega
 |@cmp a b h N J T=>exact two (by omega) N J T λ_ _=>⟨rfl,rfl⟩
 |@ari a b h N J T=>exact two (by omega) N J T λ_ _=>⟨rfl,rfl⟩
end
section
variable{W V0 V V1 V':Mem}{d:Ds}{p F c q:Nat}{s:St}{pr:Pr}{vals:List Int}
theorem MA.poke{ty:Nat}{row:Sl->Sl->Sl->List Value}(h:MA ty V0 p row V s){b:Nat}(g:V0 b≠none)(o:Obj):MA ty (V0.set b o) p row (V.set b o) s:=by
 obtain⟨gs,ns,ls,nd,f,L⟩:=h.ex;have k:p≠b:=λe=>g (e▸h.p0);exact⟨by rw[Mem.set_ne k];exact h.p0,gs,ns,ls,nd,by grind[Mem.set_ne],L.poke g o⟩
structure F8 (W V0:Mem)(q:Nat)(pr:Pr)(vals:List Int):Prop where
 sub:W.sub V0
 ex:∃a b:Sl,W q=some (.cells #[a.v,b.v] 249 (0,0))/\Ad W a 2 (pr.vars.map Fld.row)/\Sx.Own W V0 3 1 b (vals.flatMap AE)
theorem F8.fv(h:F8 W V0 q pr vals):Fv V0 q pr vals:=by
 obtain⟨a,b,k,g,f⟩:=h.ex;exact⟨a,b,h.sub _ _ k,g.sub h.sub,f.rows (λ_=>rfl) (by decide)⟩
theorem frStore{b:Sl}(own:Sx.Own W V0 3 1 b (vals.flatMap AE))(M:EM V0 d p F V s c){i:Nat}(hi:i<vals.length){v:Int}{Q:Mem->Prop}
  (x:∀h V',Sx.Own W h 3 1 b ((vals.set i v).flatMap AE)->EM h d p F V' s c->Q V'):As (Aa b.p (i*1)) 0 [.int .i64 v] V Q:=by
 rw[Nat.mul_one];rcases own.cases0 with⟨f,t,k⟩|⟨r,g,cur,f,t,k,z,j,h6,h7⟩
 ·rw[Ea]at k;have:vals=[]:=by simpa using k
  rw[this]at hi;simp at hi
 have l:b.n*1<=b.c*1:=Nat.mul_le_mul_right _ z;have y:=own.len;rw[Ea,vX]at y;have u:V0 g≠none:=by rw[k];simp
 rw[f];have e:(cur.toList.take i++[vF .i64 v]++cur.toList.drop (i+1))=cur.toList.set i (.int .i64 v):=Ky _ _ _ (by simp;omega);refine As.at2 (off:=i) (M.sub _ _ k) (by simp;omega) (x (V0.set g _) _ ⟨own.sub.set t _,?_,.inr ⟨g,_,f,t,Mem.set_same _ _ _,z,j,?_,?_⟩⟩ (M.poke u _));·rw[Ea,vX,List.length_set];exact y
 ·simp_all
 ·rw[show i+[vF .i64 v].length=i+1 from rfl,e];show(cur.toList.set i (.int .i64 v)).take (b.n*1)=_;rw[List.take_set,h7,Ea,Ea,List.map_set]
def PS(W:Mem)(d:Ds)(p F c q:Nat)(pr:Pr)(r:Rx Rt):Ending->Mem->Prop:=λe V'=>match r with
 |.ok g s=>e=.returned (.agg #[.bool g.2.isSome,.int .i64 (g.2.getD 0)])/\∃h,F8 W h q pr g.1/\EM h d p F V' s c
 |.bad k s=>e=fltE k/\∃f,EM W d p F V' s f
theorem PS.bind{f:FuncId}{args:Array Value}{r:Rx Int}{G:Rx Rt}{h:Int->St->Rx Rt}{K:Int->Mem->Prop}(t:W.sub V0)(g:G=r.bind h)(H:Tri xG f args V (PX V0 d p F c r))(u:∀v s V',r=.ok v s->EM V0 d p F V' s c->G=h v s->K v V'):
  Tri xG f args V λe V'=>(∃v,e=.returned (.int .i64 v)/\K v V')∨∃z,e=.panicked z/\PS W d p F c q pr G e V':=
 PX.split H (λk s y V' e hm=>by subst e;rw[g];exact⟨rfl,y,hm.narrow t⟩) λv s V' e hm=>u v s V' e hm (by rw[g,e];rfl)
theorem PS.ok{G:Rx Rt}{h:Rt}(k:G=.ok h s)(g:F8 W V0 q pr h.1)(M:EM V0 d p F V s c){b:Bool}{v:Int}(f:b=h.2.isSome)(hv:v=h.2.getD 0):PS W d p F c q pr G (.returned (.agg #[.bool b,.int .i64 v])) V:=by
 rw[k,f,hv];exact⟨rfl,V0,g,M⟩
theorem PS.bad{G:Rx Rt}{k:Int}(h:G=.bad k s)(g:W.sub V0)(M:EM V0 d p F V s c):PS W d p F c q pr G (fltE k) V:=by rw[h];exact⟨rfl,c,M.narrow g⟩
theorem PS.split{f:FuncId}{args:Array Value}{r:Rx Rt}{K:Bool->Int->Mem->Prop}{R:Ending->Mem->Prop}(H:Tri xG f args V (PS W d p F c q pr r))(z:∀k s u V',r=.bad k s->EM W d p F V' s u->R (fltE k) V')(j:∀t s g V',r=.ok t s->F8 W g q pr t.1->EM g d p F V' s c->K t.2.isSome (t.2.getD 0) V'):
  Tri xG f args V λe V'=>(∃b v,e=.returned (.agg #[.bool b,.int .i64 v])/\K b v V')∨∃y,e=.panicked y/\R e V':=
 Tri.mono H λe V' h=>by
  cases r with
  |ok t s=>obtain⟨l,g,J,N⟩:=h;grind
  |bad k s=>
   obtain⟨x,u,hm⟩:=h;subst x;exact .inr ⟨_,rfl,z k s u V' rfl hm⟩
structure CM (W V0:Mem)(d:Ds)(p F c q:Nat)(pr:Pr)(vals:List Int)(n m:Nat)(V:Mem)(s:St):Prop where
 S:ES W d F
 fr:F8 W V0 q pr vals
 po:DG d pr
 G:Am d s.mm
 hv:AB d s.mm pr.vars vals=true
 M:EM V0 d p F V s c
 tk:s.tk<=F
 n:F<n+s.tk
 w:BW m s
theorem CM.cx{n m:Nat}(X:CM W V0 d p F c q pr vals n m V s):Cx V0 d p F c q pr vals n m V s:=⟨X.S.sub X.fr.sub,X.fr.fv,X.po,X.G,X.hv,X.M,X.tk,X.n,X.w⟩
theorem CM.next{n m k:Nat}{f:Mem}{h:List Int}{s':St}(X:CM W V0 d p F c q pr vals n (m+k) V s)(g:Gr F m s s')(G:Am d s'.mm)(t:F8 W f q pr h)(hv:AB d s'.mm pr.vars h=true)(M:EM f d p F V' s' c):CM W f d p F c q pr h n k V' s':=
 ⟨X.S,t,X.po,G,hv,M,g.fu X.tk,by have:=g.tk;have:=X.n;omega,X.w.next g⟩
theorem CM.le{n m k:Nat}(X:CM W V0 d p F c q pr vals n m V s)(h:k<=m):CM W V0 d p F c q pr vals n k V s:=⟨X.S,X.fr,X.po,X.G,X.hv,X.M,X.tk,X.n,X.w.le h⟩
variable(d p F)in
def SC(n:Nat):Prop:=∀(l:List S)(W V0 V:Mem)(s:St)(c q:Nat)(pr:Pr)(vals:List Int)(sl:Sl),CM W V0 d p F c q pr vals n 0 V s->(∀x∈l,D9 d pr x)->(∀x∈l,S.Ok W x)->Ad W sl 5 (l.map S.row)->
 Tri xG 170 #[pv p,pv q,sl.v] V (PS W d p F c q pr (B8 d F n c pr l vals s))
variable(d p F)in
def MB(n:Nat):Prop:=∀(x:S)(W V0 V:Mem)(s:St)(c q:Nat)(pr:Pr)(vals:List Int),CM W V0 d p F c q pr vals (n+1) 0 V s->D9 d pr x->S.Ok W x->
 Tri xG 220 #[pv p,pv q,x.v] V (PS W d p F c q pr (EN d F (B8 d F n) c pr (n+1) x vals s))
theorem stsC{n:Nat}(H:MB d p F n):SC d p F (n+1):=by
 intro l W V0 V s c q pr vals sl X I K e;obtain⟨f,hf⟩:∃f,f=EN d F (B8 d F n) c pr (n+1):=⟨_,rfl⟩;obtain⟨G,hG⟩:∃G:Rx Rt,G=EO f l vals s:=⟨_,rfl⟩;show Tri _ _ _ _ (PS W d p F c q pr (EO (EN d F (B8 d F n) c pr (n+1)) l vals s));rw[<-hf,<-hG];refine Tri.mono (x170 (R:=PS W d p F c q pr G) ?_) λ_ _ h=>h;refine E3 l.length (λi V1=>∃N g s',CM W N d p F c q pr g (n+1) 0 V1 s'/\G=EO f (l.drop i) g s') ⟨V0,vals,s,X,hG⟩ ?_;rintro i V1 J hi ⟨N,g,s',t,u⟩ hJ;have T:=e.sub (t.fr.sub.trans t.M.sub);refine⟨λZ=>?_,λU=>?_⟩
 ·obtain⟨x,Y,hx,hdr,hil,hp,hz,j⟩:=T.get Z;rw[S.row_eq]at j;rw[hdr]at u;have z:G=(f x g s').bind λr st=>match r.2 with|some _=>.ok r st|none=>EO f (l.drop (i+1)) r.1 st:=u
  have P:=st_snd (F:=F) (c:=c) (n:=n+1) t.S.procs (Ho t.S.procs n) t.po (I x Y) t.G t.hv;have Hx:=H x W N V1 s' c q pr g t (I x Y) (K x Y);rw[<-hf]at Hx P;rw[show x.v=.agg #[.int .i64 x.op,.string x.s,.slice x.el.p x.el.n x.el.c,.slice x.ll.p x.ll.n x.ll.c,.slice x.xl.p x.xl.n x.xl.c]by unfold S.v;rw[S.row_eq];rfl]at Hx;refine⟨hp,hz,Z,_,_,_,_,_,j,PS.split Hx (λk C c' V2 D E=>?_) λA C L V2 D B E=>?_⟩;·rw[z,D];exact⟨rfl,c',E⟩
  obtain⟨G2,g2,q2⟩:=P.got D;rw[D]at z;cases y:A.2 with
  |some v=>
   have O:G=.ok A C:=by rw[z];show(match A.2 with|some _=>_|none=>_)=_;rw[y]
   exact⟨λ_=>PS.ok O B E (by rw[y]) (by rw[y]),λh=>absurd rfl h⟩
  |none=>
   have O:G=EO f (l.drop (i+1)) A.1 C:=by rw[z];show(match A.2 with|some _=>_|none=>_)=_;rw[y]
   exact⟨(λh=>by cases h),λ_=>⟨T.succ Z,hJ hil _ ⟨L,A.1,C,t.next (m:=0) g2 G2 B q2.1 E,O⟩⟩⟩
 ·rw[(T.done U).1]at u;exact PS.ok u t.fr t.M rfl rfl
end
section
variable{W V0 V V1 V':Mem}{d:Ds}{p F c q:Nat}{s:St}{pr:Pr}{vals:List Int}
theorem esAt{x:S}(h:S.Ok V x){i:Nat}{a:E}(g:x.es[i]?=some a):¬x.el.p=none/\(i:Int)<(x.el.n:Int)/\V.rowp x.el.p (i*4) 4=some [.int .i64 a.op,.int .i64 a.n,.string a.s,.slice a.l.p a.l.n a.l.c]:=by
 have f:=h.eRows;have j:=f.n_eq;have r:=(yv.1 g).1;obtain⟨y,-,t,-,u,z,e,k⟩:=f.get (i:=i) (by omega);rw[g]at t;cases t;exact⟨z,by omega,k⟩
theorem tickX_ok(h:s.tk<F):EL F s=.ok () {s with tk:=s.tk+1}:=by unfold EL;rw[if_neg (by omega)]
theorem tickX_bad(h:F<=s.tk):EL F s=.bad 20 s:=by unfold EL;rw[if_pos h]
theorem CM.tick{n:Nat}(X:CM W V0 d p F c q pr vals (n+1) 0 V s)(h:s.tk<F)(M:EM V0 d p F V' {s with tk:=s.tk+1} c):CM W V0 d p F c q pr vals n 4000 V' {s with tk:=s.tk+1}:=
 ⟨X.S,X.fr,X.po,⟨X.G.valid,X.G.chk,X.G.mem⟩,X.hv,M,h,by have:=X.n;show F<n+(s.tk+1);omega,by have:=X.w;unfold BW at*;show s.lg.length+s.cm+4000<=4000*(s.tk+1);omega⟩
theorem CM.tick'{n:Nat}(X:CM W V0 d p F c q pr vals n 0 V s)(h:s.tk<F)(M:EM V0 d p F V' {s with tk:=s.tk+1} c):CM W V0 d p F c q pr vals n 4000 V' {s with tk:=s.tk+1}:=
 ⟨X.S,X.fr,X.po,⟨X.G.valid,X.G.chk,X.G.mem⟩,X.hv,M,h,by have:=X.n;show F<n+(s.tk+1);omega,by have:=X.w;unfold BW at*;show s.lg.length+s.cm+4000<=4000*(s.tk+1);omega⟩
theorem Pn{n:Nat}(hE:ExprCc d p F n)(hS:SC d p F n)(hR:CallC d p F n):MB d p F n:=by
 intro x W V0 V s c q pr vals X hty C;obtain⟨G,hG0⟩:∃G:Rx Rt,G=EN d F (B8 d F n) c pr (n+1) x vals s:=⟨_,rfl⟩;rw[<-hG0];refine Tri.mono ((show x.v=.agg #[.int .i64 x.op,.string x.s,.slice x.el.p x.el.n x.el.c,.slice x.ll.p x.ll.n x.ll.c,.slice x.xl.p x.xl.n x.xl.c]by unfold S.v;rw[S.row_eq];rfl)▸x220 (R:=PS W d p F c q pr G) ?_) λ_ _ h=>h;have hF:=X.S.fuel;refine Tri.mono (c265 hF X.M) ?_;rintro e1 V1 (⟨hlt,rfl,M1⟩|⟨hge,rfl,rfl⟩);rotate_left
 ·refine .inr ⟨_,rfl,PS.bad (s:=s) ?_ X.fr.sub X.M⟩;rw[hG0];unfold EN;rw[tickX_bad hge];rfl
 refine .inl ⟨rfl,?_⟩;obtain⟨s1,hs1⟩:∃s1:St,s1={s with tk:=s.tk+1}:=⟨_,rfl⟩;have Z:CM W V0 d p F c q pr vals n 4000 V1 s1:=by rw[hs1];exact X.tick hlt M1
 have T:G=bodyX d F (B8 d F n) c pr (n+1) x vals s1:=by rw[hG0];unfold EN;rw[tickX_ok hlt,hs1];rfl
 have hcs:=Ho (F:=F) X.S.procs n;have U:∀{V2:Mem}{N:Mem},W.sub N->N.sub V2->S.Ok V2 x:=λh1 h2=>C.sub (h1.trans h2);have ex:∀{i:Nat}{a:E}{u:KB}{V2 N:Mem}{f:List Int}{O:St}{m:Nat},x.es[i]?=some a->Bf a=true->Al d (AI d pr) a=(u,0)->CM W N d p F c q pr f n m V2 O->1000<=m->
   Tri xG 266 #[pv p,pv q,.agg #[.int .i64 a.op,.int .i64 a.n,.string a.s,.slice a.l.p a.l.n a.l.c]] V2 (PX N d p F c (DU d (B8 d F n) c pr f a O)):=λ{i a u V2 N f O m} D hv ha H hm=>by
  have hp:=Hm hv;exact hE a u N V2 O c q pr f (H.cx.le (by omega)) hp.1 ((C.eOk a (xM D)).sub H.fr.sub) ha
 have go:∀{a:E}{u:KB}{V2 V3 N:Mem}{f:List Int}{O A:St}{m:Nat}{v:Int},Bf a=true->Al d (AI d pr) a=(u,0)->CM W N d p F c q pr f n (1000+m) V2 O->DU d (B8 d F n) c pr f a O=.ok v A->EM N d p F V3 A c->
   CM W N d p F c q pr f n m V3 A/\AX d A.mm u v/\Gr F 1000 O A:=λ{a u V2 V3 N f O A m v} hv ha H e M3=>by
  obtain⟨G3,g3,q3⟩:=(GD (F:=F) (c:=c) H.S.procs hcs H.po hv ha H.G H.hv).got e;exact⟨H.next g3 G3 H.fr (Ck (λh=>g3.right h) H.hv) M3,q3,g3⟩
 unfold bodyX at T;cases kindS hty with
 |@set a u t h I hv ht hl hne hf=>
  rw[if_pos h,I,vQ]at T;have D:x.es[0]?=some a:=by rw[I];rfl
  obtain⟨k1,k3,k4⟩:=esAt (U Z.fr.sub Z.M.sub) D;refine AZ h ⟨k1,by decide,k3,_,_,_,_,k4,PS.bind Z.fr.sub T (ex D hv ht Z (by omega)) λv O V2 e2 M2 r=>?_⟩;obtain⟨H,B,-⟩:=go (m:=3000) hv ht Z e2 M2;obtain⟨fa,fb,hq0,hra0,hrb0⟩:=H.fr.ex;have hW2:=H.fr.sub.trans H.M.sub;have hq:=hW2 _ _ hq0;refine⟨nn,nn,fa,An hq 0 1 (by simp),(c267 (hra0.sub hW2)).call ⟨_,rfl,?_⟩⟩;unfold setX at r;rcases H6 H.G H.hv H.po.vars hl hne with⟨i,g,w,h1,h2,h3,h4,-⟩|⟨i,g,w,h0',h1,h2,h3,h4,-⟩
  ·rw[h1];rw[if_pos (by omega),h1,xh]at r;have hil:=(yv.1 h3).1;have hbn:=((hrb0.rows (λ_=>rfl) (by decide):Ad V0 fb 1 (vals.map AE))).n_eq;obtain⟨g1,g2,g3,-⟩:=H7 (hrb0.rows (λ_=>rfl) (by decide)) h3;refine AZ (by omega) ⟨nn,nn,fb,An hq 1 1 (by simp),g1,g2,g3,frStore hrb0 M2 hil λN V' ho M'=>?_⟩;exact PS.ok r ⟨ho.sub,fa,fb,hq0,hra0,ho⟩ M' rfl rfl
  ·rw[h0'];rw[if_neg (by omega),h1,xh]at r;obtain⟨gs,ns,ls,nd,hat,L⟩:=M2.ex;have hd:=(H.S.sub H.fr.sub).ds.sub L.sub;refine Av (by decide) ⟨nn,nn,Bc,d.gs,An hat 2 1 (by simp[AH]),(c267 hd.globals).call ⟨_,rfl,?_⟩⟩;rw[h1];refine Tri.mono (c268 M2 (Cx.fit (m:=0) (H.cx.le (by omega)))) ?_;rintro _ V5 ⟨rfl,M5⟩;obtain⟨gs5,ns5,ls5,nd5,Y,L5⟩:=M5.ex;obtain⟨g1,g2,g3,-⟩:=H7 (L5.glob.rows (λ_=>rfl) (by decide)) (i:=i) (v:=w) h3;have hil:=(yv.1 h3).1;refine⟨rfl,nn,nn,Bc,gs5,An Y 8 1 (by simp[AH]),g1,g2,g3,L5.setG (i:=i) hil λV6 L6 hk6=>?_⟩;refine PS.ok r H.fr (V0:=V0) (MA.mk M5.p0 ⟨gs5,ns5,ls5,nd5,?_,L6⟩) rfl rfl;rw[hk6 _ (notBlk Y Fb L5.glob (.inl rfl))];exact Y
 |@put a b u w t h I hv hw ha ht hl hf=>
  rw[if_neg (by omega),if_pos h,I,vQ,List.getD_cons_succ,vQ]at T;have D:x.es[0]?=some a:=by rw[I];rfl
  have h1:x.es[1]?=some b:=by rw[I];rfl
  obtain⟨k1,k3,k4⟩:=esAt (U Z.fr.sub Z.M.sub) D;refine Av (by omega) (AZ h ⟨k1,by decide,k3,_,_,_,_,k4,PS.bind Z.fr.sub T (ex D hv ha Z (by omega)) λv O V2 e2 M2 r=>?_⟩);obtain⟨H,B,-⟩:=go (m:=3000) hv ha Z e2 M2;obtain⟨l1,l3,l4⟩:=esAt (U H.fr.sub H.M.sub) h1;refine⟨l1,by decide,l3,_,_,_,_,l4,PS.bind H.fr.sub r (ex h1 hw ht H (by omega)) λy A V3 e3 M3 hG3=>?_⟩;obtain⟨X3,hv3,g3⟩:=go (m:=2000) hw ht H e3 M3;have B:=g3.val B;refine⟨λK=>Fc (PS.bad (s:=A) ?_ X3.fr.sub M3),λK=>?_⟩;·rw[hG3];unfold putX;rw[if_pos (show v=0 from K)];rfl
  have K:¬v=0:=K;obtain⟨k,i,j,tt,g,fs,z,rfl,f2,f3,f4,f5,f6,f7,f8,-⟩:=Jj X3.G hl B K;have hG4:G=.ok (vals,none) {A with ns:=A.ns.set k ((j:Int),fs.set i y),lg:=A.lg++[(2,(k:Int)+1,(i:Int))]}:=by
   rw[hG3];unfold putX;rw[if_neg K,show((k:Int)+1-1).toNat=k by omega,f2];simp only;rw[f5,f6,xh];rfl
  refine(c269 (X3.S.sub X3.fr.sub) M3 f2 f3).call ⟨_,rfl,?_⟩;rw[f6];refine Tri.mono (c268 M3 (Cx.fit (m:=0) (X3.cx.le (by omega)))) ?_;rintro _ V5 ⟨rfl,M5⟩;obtain⟨gs5,ns5,ls5,nd5,sl5,Y,L5,hnd5,hI,n1,n2,n3,n4,m1,m2,m3,m4⟩:=nodeAt M5 (k:=k) (i:=i) f2 f8;have hil:=(yv.1 f8).1;rw[show((k:Int)+1-1)=(k:Int)by omega];refine⟨rfl,nn,nn,Bc,ns5,An Y 9 1 (by simp[AH]),hI,n1,n2,n3,Ah n1,_,_,n4,m1,m2,m3,L5.setF hnd5 hil λV6 L6 hk6=>?_⟩;refine PS.ok hG4 X3.fr (V0:=V0) (MA.mk M5.p0 ⟨gs5,ns5,ls5,_,?_,L6⟩) rfl rfl;rw[hk6 _ (notBlk Y Fb (L5.fld _ (xM hnd5)) (.inl rfl))];exact Y
 |@cond a h I hv ht=>
  rw[if_neg (by omega),if_neg (by omega),if_pos h,I,vQ]at T;have D:x.es[0]?=some a:=by rw[I];rfl
  obtain⟨k1,k3,k4⟩:=esAt (U Z.fr.sub Z.M.sub) D;obtain⟨-,-,-,hlt1,hlt2⟩:=hty.parts;refine Av (by omega) (Av (by omega) (AZ h ⟨k1,by decide,k3,_,_,_,_,k4,PS.bind Z.fr.sub T (ex D hv ht Z (by omega)) λv O V2 e2 M2 r=>?_⟩));obtain⟨H,B,-⟩:=go (m:=3000) hv ht Z e2 M2;have B:=Da.1 B;have fin:∀{l:List S}{sl:Sl},(∀y∈l,D9 d pr y)->(∀y∈l,S.Ok W y)->Ad W sl 5 (l.map S.row)->G=B8 d F n c pr l vals O->Tri xG 170 #[pv p,pv q,.slice sl.p sl.n sl.c] V2 λe' V'=>(∃b v,e'=.returned (.agg #[.bool b,.int .i64 v])/\PS W d p F c q pr G (.returned (.agg #[.bool b,.int .i64 v])) V')∨∃ch,e'=.panicked ch/\PS W d p F c q pr G e' V':=λ{l sl} t1 t2 t3 hGl=>
   PS.split (hS l W V0 V2 O c q pr vals sl (H.le (by omega)) t1 t2 t3) (λk A c' V3 e3 M3=>by rw[hGl,e3];exact⟨rfl,c',M3⟩) λrt A N V3 e3 hf3 M3=>PS.ok (hGl.trans e3) hf3 M3 rfl rfl
  refine⟨λK=>fin hlt1 C.lOk C.lRows ?_,λK=>fin hlt2 C.xOk C.xRows ?_⟩
  ·have K:v=1:=K;rw[r,if_neg (by omega)]
  ·have K:¬v=1:=K;rw[r,if_pos (by omega)]
 |@loop a h I hv ht=>
  rw[if_neg (by omega),if_neg (by omega),if_neg (by omega),if_pos h,I,vQ]at T;have D:x.es[0]?=some a:=by rw[I];rfl
  obtain⟨-,-,-,hlt1,-⟩:=hty.parts;refine Av (by omega) (Av (by omega) (Av (by omega) (AZ h ?_)));refine⟨λm xs V2=>xs=[]/\∃N f s',CM W N d p F c q pr f n 1000 V2 s'/\F<m+s'.tk/\G=FC d F (B8 d F n) c pr a x.ls m f s',n+1,⟨rfl,V0,vals,s1,Z.le (by omega),by have:=Z.n;omega,T⟩,?_⟩;rintro m V2 ⟨-,N,f,s',X',hm,hG'⟩ J hJ;obtain⟨m,rfl⟩:∃m',m=m'+1:=⟨m-1,by have:=X'.tk;omega⟩;rw[FC]at hG';obtain⟨k1,k3,k4⟩:=esAt (U X'.fr.sub X'.M.sub) D;refine⟨k1,by decide,k3,_,_,_,_,k4,PS.bind X'.fr.sub hG' (ex D hv ht X' (by omega)) λv O V3 e2 M2 r=>?_⟩;obtain⟨H,B,g2⟩:=go (m:=0) hv ht X' e2 M2;have B:=Da.1 B;refine⟨λK=>?_,λK=>?_⟩;rotate_left
  ·have K:¬v=1:=K;rw[if_pos (by omega)]at r;exact PS.ok r H.fr H.M rfl rfl
  have K:v=1:=K;rw[if_neg (by omega)]at r;have P:=hcs c pr x.ls f O H.po hlt1 H.G H.hv;refine PS.split (hS x.ls W N V3 O c q pr f x.ll H hlt1 C.lOk C.lRows) (λk A c' V4 e3 M3=>?_) λrt A V0'' V4 e3 hf3 M3=>?_;·rw[r,e3];exact⟨rfl,c',M3⟩
  obtain⟨G3,g3,q3⟩:=P.got e3;have X3:=H.next (m:=0) (k:=0) g3 G3 hf3 q3.1 M3;rw[e3]at r;cases hrt:rt.2 with
  |some z=>
   have hG3:G=.ok rt A:=by rw[r];show(match rt.2 with|some _=>_|none=>_)=_;rw[hrt]
   exact⟨λ_=>PS.ok hG3 hf3 M3 (by rw[hrt]) (by rw[hrt]),λh=>absurd rfl h⟩
  |none=>
   have hG3:G=(EL F A).bind λ_ st=>FC d F (B8 d F n) c pr a x.ls m rt.1 st:=by rw[r];show(match rt.2 with|some _=>_|none=>_)=_;rw[hrt]
   refine⟨(λh=>by cases h),λ_=>Tri.mono (c265 hF M3) ?_⟩;rintro e4 V5 (⟨hlt',rfl,M5⟩|⟨hge,rfl,rfl⟩)
   ·refine .inl ⟨rfl,hJ m _ _ (by omega) ⟨rfl,V0'',rt.1,{A with tk:=A.tk+1},(X3.tick' hlt' M5).le (by omega),?_,by rw[hG3,tickX_ok hlt'];rfl⟩⟩;have:=g2.tk;have:=g3.tk;show F<m+(A.tk+1);omega
   ·exact .inr ⟨_,rfl,PS.bad (s:=A) (by rw[hG3,tickX_bad hge];rfl) hf3.sub M3⟩
 |ret0 h I hr=>
  rw[if_neg (by omega),if_neg (by omega),if_neg (by omega),if_neg (by omega),if_pos h,I]at T;have hn:=(U Z.fr.sub Z.M.sub).eRows.n_eq;rw[I]at hn;refine Av (by omega) (Av (by omega) (Av (by omega) (Av (by omega) (AZ h (AZ (by rw[hn];rfl) ?_)))));exact PS.ok T Z.fr Z.M rfl rfl
 |@ret1 a u h I hv ht hr hf=>
  rw[if_neg (by omega),if_neg (by omega),if_neg (by omega),if_neg (by omega),if_pos h,I]at T;have D:x.es[0]?=some a:=by rw[I];rfl
  obtain⟨k1,k3,k4⟩:=esAt (U Z.fr.sub Z.M.sub) D;refine Av (by omega) (Av (by omega) (Av (by omega) (Av (by omega) (AZ h (Av (by omega) ⟨k1,by decide,k3,_,_,_,_,k4,PS.bind Z.fr.sub T (ex D hv ht Z (by omega)) λv O V2 e2 M2 r=>?_⟩)))));exact PS.ok r Z.fr M2 rfl rfl
 |@call a pr' i h I hv ho hc=>
  rw[if_neg (by omega),if_neg (by omega),if_neg (by omega),if_neg (by omega),if_neg (by omega),if_pos h,I,vQ]at T;unfold DU at T;rw[evX_eq,Jd ho,hc.idx]at T;have D:x.es[0]?=some a:=by rw[I];rfl
  obtain⟨k1,k3,k4⟩:=esAt (U Z.fr.sub Z.M.sub) D;have hp:=Hm hv;have hea:=C.eOk a (xM D);refine Av (by omega) (Av (by omega) (Av (by omega) (Av (by omega) (Av (by omega) (AZ h ⟨k1,by decide,k3,_,_,_,_,k4,PS.bind Z.fr.sub T (callC hR (Z.cx.le (by omega)) (hea.sub Z.fr.sub) hc hp.1 λb hb u W' V2 O hW' H ht=>?_) λv O V2 e2 M2 r=>?_⟩)))));·exact hE b u W' V2 O c q pr vals H (hp.1.kids b hb) (((hea.sub Z.fr.sub).kids b hb).sub hW') ht
  ·exact PS.ok r Z.fr M2 rfl rfl
end
theorem own_zero{V0 V:Mem}{e:TypeId}{sz:Nat}{s:Sl}{vs:List Value}(h:Sx.Own V0 V e sz s vs):Sx.Own V0 V e sz ⟨s.p,0,s.c⟩ []:=⟨h.sub,by simp,by
 rcases h.at_ with⟨k,f,t⟩|⟨g,cur,k,f,t,u,z,h6,h7⟩;·simp_all
 simp_all⟩
theorem own_to{V0 V k V':Mem}{e:TypeId}{sz:Nat}{s:Sl}{vs:List Value}(h:Sx.Own V0 V e sz s vs)(x:k.sub V')(t:∀g o,Bl s g->V0 g=none->V g=some o->k g=none/\V' g=some o):Sx.Own k V' e sz s vs:=⟨x,h.len,by
 rcases h.cases0 with f|⟨u,g,cur,f,z,y,j⟩;·exact .inl f
 ·exact .inr ⟨g,cur,f,(t g _ ⟨u,f⟩ z y).1,(t g _ ⟨u,f⟩ z y).2,j⟩⟩
theorem own_p0{V0 V:Mem}{e:TypeId}{sz:Nat}{s:Sl}{vs:List Value}(h:Sx.Own V0 V e sz s vs)(f:s.c≠0)(m:Nat):Aa s.p (0*m)=s.p:=by
 rw[Nat.zero_mul];rcases h.at_ with⟨k,t,u⟩|⟨g,cur,k,-⟩;·omega
 ·rw[k];rfl
theorem az31{V0 V:Mem}{ty:TypeId}{x y:Operand}{vals:Operand->Value}{s:Sl}{n:Nat}{vs:List Int}(f:vals x=.slice s.p s.n s.c)(t:vals y=.int .i64 n)(own:Sx.Own V0 V 3 1 s (vs.flatMap AE))(g:s.n+n<=2147483648){q:Value->Mem->Prop}
  (j:∀(s':Sl) V',Sx.Own V0 V' 3 1 s' ((vs++yJ n (0:Int)).flatMap AE)->q (.slice s'.p s'.n s'.c) V'):GenK xG (.call {callee:=.builtin .append,args:=#[x,y],argTypes:=#[31,3]}) ty vals V q:=
 Go.Sx.GenK.appendZ (z:=.int .i64 0) (i:=ti 3) (k:=.i64) vo wo (by kernel_rfl) (by kernel_rfl) (by kernel_rfl) (by kernel_rfl) (by decide) (of_decide_eq_true (by kernel_rfl)) (λu hu=>by
  have l:(vF .i64 0).cells=#[vF .i64 0]:=by rfl
  rw[l]at hu;simp at hu;subst hu;rfl) f t own g λs' V' h=>j s' V' (by
  rw[List.flatMap_append];have e:(yJ n (0:Int)).flatMap AE=(Builtin.zeroCells (vF .i64 0).cells n).toList:=by rw[Pk,Ea,vp]
  rw[e];exact h)
theorem az23{V0 V:Mem}{ty:TypeId}{x y:Operand}{vals:Operand->Value}{s:Sl}{n:Nat}{vs:List Value}(f:vals x=.slice s.p s.n s.c)(t:vals y=.int .i64 n)(own:Sx.Own V0 V 110 2 s vs)(g:s.n+n<=2147483648){q:Value->Mem->Prop}
  (j:∀(s':Sl) V' ws,Sx.Own V0 V' 110 2 s' ws->q (.slice s'.p s'.n s'.c) V'):GenK xG (.call {callee:=.builtin .append,args:=#[x,y],argTypes:=#[23,3]}) ty vals V q:=
 Go.Sx.GenK.appendZ (z:=.agg #[.string (Ab []),.string (Ab [])]) (i:=ti 110) (k:=.i64) Tryz.underlying23 wo (by kernel_rfl) (by kernel_rfl) (by kernel_rfl) (by kernel_rfl) (by decide) (of_decide_eq_true (by kernel_rfl)) (λu hu=>by
  have l:(Value.agg #[.string (Ab []),.string (Ab [])]).cells=#[.string (Ab []),.string (Ab [])]:=by rfl
  rw[l]at hu;simp at hu;subst hu;rfl) f t own g λs' V' h=>j s' V' _ h
theorem c219{V:Mem}{n:Nat}(f:n<=2147483648):Tri xG 219 #[.slice none 0 0,.int .i64 n] V λe V'=>∃s:Sl,e=.returned (.slice s.p s.n s.c)/\Sx.Own V V' 110 2 s []:=by
 refine x219 (a:=⟨none,0,0⟩) (b:=n) ?_;have e:(n:Int)-(((0:Nat):Int)-((0:Nat):Int))=n:=by omega
 refine Av (by omega) ⟨⟨by simp,by simp⟩,⟨by rw[e];omega,by rw[e];omega⟩,λh=>⟨⟨by omega,by omega,by omega⟩,?_⟩,λh=>⟨⟨none,0,0⟩,rfl,Own.nil (Mem.sub.refl _) _ _⟩⟩;refine az23 (s:=⟨none,0,0⟩) (n:=n) (vs:=[]) (V0:=V) rfl (by rfl) (Own.nil (Mem.sub.refl _) _ _) (by simpa using f) λs' V' t k=>⟨s',rfl,⟨by omega,by omega,by simp⟩,⟨s'.p,0,s'.c⟩,?_,own_zero k⟩;by_cases g:s'.c=0;·simp[g]
 ·rw[if_neg (by omega),show((0:Int).toNat*2)=0*2 from rfl,own_p0 k g];simp
theorem c169{V:Mem}{sl a b:Sl}{xs ys:List Fld}(h:Ad V sl 1 ([a,b].map λs:Sl=>[s.v]))(X:Ad V a 2 (xs.map Fld.row))(B:Ad V b 2 (ys.map Fld.row))(hx:xs.length<=100)(hy:ys.length<=100):
  Tri xG 169 #[sl.v] V λe V'=>∃s:Sl,e=.returned (.slice s.p s.n s.c)/\Sx.Own V V' 110 2 s ((xs++ys).flatMap Fld.row):=by
 have C:=X.n_eq;have D:=B.n_eq;refine x169 ?_;refine DB (mk:=λk:Int=>.int .i64 k) (b0:=0) BG 2 (λi k V1=>V1=V/\k=(((([a,b].take i).map (λs:Sl=>s.n)).sum:Nat):Int)) ⟨rfl,rfl⟩ ?_;rintro i k V1 J hi ⟨rfl,rfl⟩ E;refine⟨λg=>?_,λt=>?_⟩
 ·obtain⟨u,l,hu,r,z,H,N,f⟩:=h.get g;have K:u.n<=100:=by
   grind
  have hs:(([a,b].take (i+1)).map (λs:Sl=>s.n)).sum=(([a,b].take i).map (λs:Sl=>s.n)).sum+u.n:=by grind
  have T:(([a,b].take i).map (λs:Sl=>s.n)).sum<=200:=by
   rcases(show i=0∨i=1 by grind)with rfl|rfl;·simp
   ·simp;omega
  refine⟨H,N,g,u,f,⟨by omega,by omega⟩,Av (by omega) ⟨h.succ g,E z _ _ ⟨rfl,by omega⟩⟩⟩
 ·have h2:=(h.done t).2;have Z:i=2:=by grind
  subst Z;refine Tri.mono (c219 (by simp;omega)) ?_;rintro _ V2 ⟨s0,rfl,Y⟩;refine⟨s0,rfl,DB (mk:=λs:Sl=>.slice s.p s.n s.c) (b0:=s0) AT 2 (λj s O=>Sx.Own V1 O 110 2 s ((([xs,ys].take j).flatten).flatMap Fld.row)) Y ?_⟩;rintro j s O J1 hj x A;have I:=h.sub x.sub;refine⟨λg=>?_,λt=>?_⟩
  ·obtain⟨u,l,hu,r,z,H,N,f⟩:=I.get g;obtain⟨y,U,L,R⟩:∃y,[xs,ys][j]?=some y/\Ad O u 2 (y.map Fld.row)/\([xs,ys].take j).flatten.length+y.length<=2147483648:=by
    rcases(show j=0∨j=1 by omega)with rfl|rfl;·simp at hu;subst hu;exact⟨xs,rfl,X.sub x.sub,by simp;omega⟩
    ·simp at hu;subst hu;exact⟨ys,rfl,B.sub x.sub,by simp;omega⟩
   refine⟨H,N,g,u,f,Ek (s:=s) (u:=u) (xs:=([xs,ys].take j).flatten) (ys:=y) rfl rfl x L R λs' V' ho'=>⟨s',rfl,I.succ g,A z _ _ ?_⟩⟩;grind
  ·have h3:=(I.done t).2;grind
theorem runC{d:Ds}{p F n:Nat}(H:SC d p F n):CallC d p F n:=by
 intro V0 V s c i pr args l hS B G ha hl M htk hn hw;obtain⟨G',C⟩:∃G':Rx Int,G'=Db d (B8 d F n) c i args s:=⟨_,rfl⟩;rw[<-C];have D:=xM B;have r:=hS.procs pr D;have u:=hS.ds.procsOk pr D;refine Tri.mono (x123 (R:=PX V0 d p F c G') ?_) λ_ _ h=>h;obtain⟨gs,ns,ls,nd,J,L⟩:=M.ex;unfold Db at C;refine⟨nn,nn,_,An J 12 1 (by simp[AH]),λh2=>Fc (PX.bad (by grind) M),λh2=>?_⟩;rw[if_neg (by omega),xh,B]at C;refine⟨nn,nn,_,An J 12 1 (by simp[AH]),⟨by omega,by omega⟩,nn,nn,As.at2 (off:=12) J (by simp[AH]) ?_⟩;have M1:EM V0 d p F (V.set p (.cells (AH d F s.tk ((c+1:Nat):Int) s.cm gs ns ls).toArray 89 (0,0))) s (c+1):=MA.set (row':=AH d F s.tk ((c+1:Nat):Int) s.cm) Fb M.p0 J L rfl rfl rfl rfl;obtain⟨V1,E⟩:∃V1,V1=V.set p (.cells (AH d F s.tk ((c+1:Nat):Int) s.cm gs ns ls).toArray 89 (0,0)):=⟨_,rfl⟩;rw[<-E]at M1;show Af _ _ (V.set p (.cells (AH d F s.tk ((c+1:Nat):Int) s.cm gs ns ls).toArray 89 (0,0))) _;rw[<-E];intro b1 hb1;obtain⟨V2,N⟩:∃V2,V2=V1.set b1 (.cells #[.slice pr.ps.p pr.ps.n pr.ps.c,.slice pr.ls.p pr.ls.n pr.ls.c] 23 (0,0)):=⟨_,rfl⟩;have Z:V1.sub V2:=N▸Mem.sub_new hb1 _;have Y:=M1.sub.trans Z;have K:Ad V2 ⟨some ⟨b1,0,none⟩,2,2⟩ 1 ([pr.ps,pr.ls].map λs:Sl=>[s.v]):=Ad.cells (xs:=[pr.ps,pr.ls]) (row:=λs:Sl=>[s.v]) (by rw[N];exact Mem.set_same _ _ _) rfl (λ_=>rfl) rfl (by simp);show Tri _ _ #[.slice (sa b1) 2 2] (V1.set b1 (.cells #[.slice pr.ps.p pr.ps.n pr.ps.c,.slice pr.ls.p pr.ls.n pr.ls.c] 23 (0,0))) _;rw[<-N];have hln:=r.lens;refine Tri.mono (c169 K (u.params.sub Y) (u.locals.sub Y) (by omega) (by omega)) ?_;rintro _ V3 ⟨j,rfl,o3⟩;have T:=Y.trans o3.sub;have hal:=(Dk.1 ha).1;refine⟨j,rfl,Tri.mono (c120 (hl.sub T) (by omega)) ?_⟩;rintro _ V4 ⟨s4,rfl,o4⟩;have h4n:=o4.n_eq (λ_=>rfl) (by decide);have U:=u.locals.n_eq;refine⟨s4,rfl,az31 (s:=s4) (n:=pr.ls.n) rfl rfl o4 (by omega) λt V5 o5=>⟨t,rfl,λb2 O=>?_⟩⟩;rw[U]at o5;obtain⟨V6,A⟩:∃V6,V6=V5.set b2 (.cells #[.slice j.p j.n j.c,.slice t.p t.n t.c] 249 (0,0)):=⟨_,rfl⟩;have s56:V5.sub V6:=A▸Mem.sub_new O _;have s36:=o5.sub.trans s56;have s16:=Z.trans (o3.sub.trans s36);obtain⟨W,w0,w6,MW,I⟩:=M1.after s16;show Tri _ _ #[pv p,pv b2,.slice pr.bs.p pr.bs.n pr.bs.c] (V5.set b2 (.cells #[.slice j.p j.n j.c,.slice t.p t.n t.c] 249 (0,0))) _;rw[<-A];have n1:∀{b:Nat},V2 b=none->V1 b=none:=λ{b} h=>by
  cases hc:V1 b with
  |none=>rfl
  |some o=>rw[Z _ _ hc]at h;cases h
 have n3:∀{b:Nat},V3 b=none->V2 b=none:=λ{b} h=>by
  cases hc:V2 b with
  |none=>rfl
  |some o=>rw[o3.sub _ _ hc]at h;cases h
 have n5:V3 b2=none:=by
  cases hc:V3 b2 with
  |none=>rfl
  |some o=>rw[o5.sub _ _ hc]at O;cases O
 have hbk:∀{b:Nat},Bl t b->V3 b=none:=λh=>Own.none0 o5 h;have z:V0.sub (W.but t):=λb o hb=>Mem.but_at (w0 _ _ hb) λhk=>by have:=hbk hk;rw[T _ _ hb]at this;cases this
 have o5':Sx.Own (W.but t) W 3 1 t ((args++yJ pr.locals.length (0:Int)).flatMap AE):=own_to o5 (Mem.but_sub _ _) λg o hk h0 h1=>⟨by grind[Mem.but],I _ _ (n1 (n3 h0)) (s56 _ _ h1)⟩;have o3':Sx.Own (λ_=>none) (W.but t) 110 2 j ((pr.params++pr.locals).flatMap Fld.row):=own_to o3 (λ_ _ h=>by cases h) λg o hk h0 h1=>⟨rfl,Mem.but_at (I _ _ (n1 h0) (s36 _ _ h1)) λhk'=>by simp_all⟩;have hfr:W b2=some (.cells #[j.v,t.v] 249 (0,0)):=I _ _ (n1 (n3 n5)) (by rw[A];exact Mem.set_same _ _ _);have nb2:¬Bl t b2:=λhk=>by
  grind[Own.some]
 have FR:F8 (W.but t) W b2 pr (args++yJ pr.locals.length 0):=⟨Mem.but_sub _ _,j,t,Mem.but_at hfr nb2,o3'.rows (λ_=>rfl) (by decide),o5'⟩;have hv:=Jg ha (KD G.valid λf hf=>r.vars f (List.mem_append_right _ hf));have X:Ad (W.but t) pr.bs 5 (pr.body.map S.row):=u.body.sub z;refine PS.split (H pr.body (W.but t) W V6 s (c+1) b2 pr _ pr.bs ⟨hS.sub z,FR,r,G,hv,MW,htk,hn,hw⟩ r.body (λx hx=>(u.stmts x hx).sub z) X) (λk s2 c' V7 e2 M7=>?_) λrt s2 W7 V7 e2 f7 M7=>?_
 ·rw[C];show PX V0 d p F c ((B8 d F n (c+1) pr pr.body _ s).bind _) _ _;rw[e2];exact⟨rfl,c',M7.narrow z⟩
 ·have M8:=M7.narrow (z.trans f7.sub);obtain⟨gs7,ns7,ls7,nd7,y,L7⟩:=M8.ex;refine⟨nn,nn,_,An y 12 1 (by simp[AH]),⟨by omega,by omega⟩,nn,nn,As.at2 (off:=12) y (by simp[AH]) ?_⟩;rw[C];show PX V0 d p F c ((B8 d F n (c+1) pr pr.body _ s).bind _) _ _;rw[e2];refine⟨rfl,?_⟩;have e:(((c+1:Nat):Int)-1)=(c:Int):=by omega
  rw[e];exact MA.set (row':=AH d F s2.tk c s2.cm) Fb M8.p0 y L7 rfl rfl rfl rfl
theorem allC(d:Ds)(p F:Nat):∀n,SC d p F n
 |0=>λl W V0 V s c q pr vals sl X _ _ _=>absurd X.n (by have:=X.tk;omega)
 |n+1=>stsC (Pn (exprCc (runC (allC d p F n))) (allC d p F n) (runC (allC d p F n)))
end Go.Proofs
namespace Go.Proofs
open Go Go.Sx
section
variable{d:Ds}{F F' b:Nat}
def Sext(s t:St):Prop:=(∃l,t.lg=s.lg++l)/\s.tk<=t.tk/\s.ns.length<=t.ns.length
def RE{α:Type}(s:St)(r:Rx α):Prop:=Sext s r.st
end
end Go.Proofs
namespace Go.Proofs
open Go Go.Sx
section
variable{d:Ds}{F F':Nat}
def Mm.plain(m:Mm):List Int×List (Int×List Int):=(m.globals,m.nodes.map λn=>(n.ty,n.f))
def Bm(m:Mm):St:=⟨m.globals,m.nodes.map λn=>(n.ty,n.f),0,0,[]⟩
theorem St.plain(s:St):s.mm.plain=(s.g,s.ns):=by
 unfold Mm.plain St.mm;simp[Function.comp_def]
theorem Hr{m m':Mm}(h:m.plain=m'.plain){i:Nat}{x:Nd}(k:m.nodes[i]?=some x):∃y,m'.nodes[i]?=some y/\y.ty=x.ty/\y.f=x.f:=by
 have g:(m.nodes.map λn=>(n.ty,n.f))=m'.nodes.map λn=>(n.ty,n.f):=(vn h).2;have:(m'.nodes.map λn=>(n.ty,n.f))[i]?=some (x.ty,x.f):=by grind
 simp_all
theorem Hs{m m':Mm}(h:m.plain=m'.plain):m.nodes.length=m'.nodes.length:=by
 have k:(m.nodes.map λn=>(n.ty,n.f))=m'.nodes.map λn=>(n.ty,n.f):=(vn h).2;have:=congrArg List.length k;simpa using this
theorem F9{m m':Mm}(h:m.plain=m'.plain)(hv:BQ d m=true):BQ d m'=true:=by
 obtain⟨p1,g,p3,f,u⟩:=BX hv;have z:=Hs h;have y:m.globals=m'.globals:=(vn h).1;have r:∀{t v},AR d m t v=true->AR d m' t v=true:=λk=>KA (by omega) (λi x j=>by
  grind[Hr]) k
 grind[Jh,Ck,vV,Hr,xM,DP]
theorem KI(m:Mm):(Bm m).mm.plain=m.plain:=St.plain _
theorem good_st{m:Mm}(G:Am d m):Am d (Bm m).mm:=⟨G.valid,G.chk,F9 (KI m).symm G.mem⟩
theorem KJ{m m':Mm}(h:m.plain=m'.plain){t:KB}{v:Int}(k:AR d m t v=true):AR d m' t v=true:=KA (by rw[Hs h];omega) (λi x g=>by
 grind[Hr]) k
def outC:Rx Int->Int|.ok _ _=>0|.bad c _=>c
def outV:Rx Int->Int|.ok v _=>v|.bad _ _=>0
def Cm(l:List (Int×Int×Int)):Nat:=(l.filter λa=>decide (0<a.2.1)).length
end
end Go.Proofs
namespace Go.Proofs
open Go Go.Sx
attribute [local irreducible] Go.Sx.Tri
theorem chk_none{d:Ds}(h:(fltR (BJ d)).2.2=0):BJ d=none:=by
 have key:∀{a:Option Flt},(∀r,a=some r->r.2.2≠0)->(fltR a).2.2=0->a=none:=λ{a} z h=>by
  cases a with
  |none=>rfl
  |some r=>exact absurd h (z r rfl)
 refine key (λr k=>?_) h;unfold BJ at k;have g:∀{a b:Option Flt} {r},a.or b=some r->a=some r∨b=some r:=λ{a b r} h=>by
  cases a with
  |none=>exact .inr (by simpa using h)
  |some x=>exact .inl (by simpa using h)
 rcases g k with f|k;·exact(IS d r f).1
 rcases g k with f|k;·exact(IT d r f).1
 rcases g k with f|k;·exact(IU d r f).1
 rcases g k with f|k
 ·unfold D5 at f;obtain⟨j,x,-,t⟩:=Gw f;split at t;·rename_i u;cases t;exact u
  ·cases t
 ·exact(IV d r k).1
section
variable{V:Mem}{d:Ds}{m:Mm}
theorem c167(X:Ds.Ok V d)(hm:Mm.Ok V m)(G:Am d m){g:KB}{v:Int}:PP 167 [d.v,m.v,.string g,.int .i64 v] V (.bool (AR d m g v)):=by
 refine x167 ?_;have f:∀{b:Bool},AR d m g v=b->(xJ (.bool b)=.returned (.bool (AR d m g v))/\V=V):=λe=>⟨by rw[e],rfl⟩;refine⟨λh=>⟨λa=>f ?_,λa=>f ?_⟩,λh=>⟨λz=>⟨λa=>f ?_,λa=>f ?_⟩,λz=>⟨λu=>f ?_,λu=>⟨λO=>⟨λH=>?_,λH=>f ?_⟩,λO=>f ?_⟩⟩⟩⟩;·unfold AR;rw[if_pos (show g=Ai from h)];simp[show(-1099511627776:Int)<=v from a]
 ·unfold AR;rw[if_pos (show g=Ai from h)];exact decide_eq_false λk=>a k.1
 ·unfold AR;rw[if_neg (show ¬g=Ai from h),if_pos (show g=Ar from z)];exact decide_eq_true (.inl a)
 ·unfold AR;rw[if_neg (show ¬g=Ai from h),if_pos (show g=Ar from z)];have a:¬v=0:=a;simp[a]
 ·unfold AR;rw[if_neg (show ¬g=Ai from h),if_neg (show ¬g=Ar from z)];exact decide_eq_true (.inl u)
 ·have u:¬v=0:=u;have D:=hm.nodes.n_eq;have H:v<=(m.ns.n:Int):=H;obtain⟨k,B⟩:∃k:Nat,v-1=(k:Int):=⟨(v-1).toNat,by omega⟩;obtain⟨y,A,E,-,-,J,K,N⟩:=hm.nodes.get (i:=k) (by omega);obtain⟨p1,p2,p3,-⟩:=BX G.mem;have T:=of_decide_eq_true (p3 y A);obtain⟨j,I⟩:∃j:Nat,y.ty=(j:Int):=⟨y.ty.toNat,by omega⟩;have U:=X.types.n_eq;obtain⟨tt,-,Z,-,-,Y,L,l⟩:=X.types.get (i:=j) (by omega);have r:V.rowp m.ns.p (k*2) 2=some [.int .i64 (j:Int),y.sl.v]:=by rw[<-I];exact N
  rw[B];refine⟨⟨by omega,by omega⟩,J,K,by omega,Ah J,_,_,r,Y,L,by omega,Ah Y,_,_,l,f ?_⟩;unfold AR;rw[if_neg (show ¬g=Ai from h),if_neg (show ¬g=Ar from z),B,xh,E];refine decide_eq_decide.2 ⟨λt=>?_,λt=>.inr ⟨by omega,by omega,?_⟩⟩
  ·rcases t with t|⟨-,-,t⟩;·exact absurd t u
   ·simp only[zJ,zF]at t;obtain⟨x,C,R⟩:=idxT_at (d:=d) (k:=g) (i:=j) (by rw[<-t,I]);rw[Z]at C;cases C;exact R
  ·simp only[zJ,zF];rw[I,<-(E8 p1).2.1 j tt Z];exact congrArg _ t
 ·have H:¬v<=(m.ns.n:Int):=H;have D:=hm.nodes.n_eq;have u:¬v=0:=u;unfold AR;rw[if_neg (show ¬g=Ai from h),if_neg (show ¬g=Ar from z)];exact decide_eq_false λt=>by rcases t with t|⟨-,t,-⟩<;>omega
 ·have O:¬0<v:=O;have u:¬v=0:=u;unfold AR;rw[if_neg (show ¬g=Ai from h),if_neg (show ¬g=Ar from z)];exact decide_eq_false λt=>by rcases t with t|⟨t,-,-⟩<;>omega
def By(d:Ds)(m:Mm)(nm:KB)(args:List Int):Int:=
 if BR d nm<0 then 9 else match d.procs[(BR d nm).toNat]? with
  |none=>9
  |some pr=>if args.length=pr.params.length then(if AB d m pr.params args=true then 0 else 11)else 3
theorem cllE_zero{nm:KB}{args:List Int}(h:By d m nm args=0):∃(i:Nat)(pr:Pr),BR d nm=(i:Int)/\d.procs[i]?=some pr/\AB d m pr.params args=true:=by
 unfold By at h;split at h;·cases h
 ·split at h;·cases h
  ·rename_i g pr k;split at h
   ·split at h;·exact⟨(BR d nm).toNat,pr,by omega,k,by assumption⟩
    ·cases h
   ·cases h
def noPr:Pr:=⟨Ab [],Ag,[],Ab [],Ag,[],Ag,[]⟩
theorem c121(r:Ds.Ok V d)(hm:Mm.Ok V m)(G:Am d m){l:Sl}{args:List Int}(I:Ad V l 1 (args.map AE)){nm:KB}:
  PP 121 [d.v,m.v,.agg #[.string nm,l.v]] V (.tuple #[(if By d m nm args=0 then((d.procs[(BR d nm).toNat]?).getD noPr)else noPr).v,.int .i64 (By d m nm args)]):=by
 refine x121 ?_;have bad:∀{e:Int},By d m nm args=e->e≠0->(xJ (.tuple #[noPr.v,.int .i64 e])=.returned (.tuple #[(if By d m nm args=0 then((d.procs[(BR d nm).toNat]?).getD noPr)else noPr).v,.int .i64 (By d m nm args)])/\V=V):=λe h=>⟨by rw[e,if_neg h],rfl⟩;refine(c166 r).call ⟨_,rfl,λh=>?_,λh=>?_⟩;·exact bad (by unfold By;rw[if_pos h]) (by decide)
 ·have h:¬BR d nm<0:=h;rcases Cw (λt:Pr=>decide (t.name=nm)) d.procs with⟨X,-⟩|⟨i,pr,X,L,-⟩
  ·have:BR d nm=-1:=X;omega
  have hi:BR d nm=(i:Int):=X;have hn:=r.procs.n_eq;have hil:=(yv.1 L).1;obtain⟨y,B,hy,-,-,hp,hz,H⟩:=r.procs.get (i:=i) (by omega);rw[L]at hy;cases hy;have N:By d m nm args=if args.length=pr.params.length then(if AB d m pr.params args=true then 0 else 11)else 3:=by unfold By;rw[if_neg h,hi,xh,L]
  have Z:=(r.procsOk pr B).params;have hln:=Z.n_eq;have han:=I.n_eq;rw[hi]at bad⊢;refine⟨hp,hz,by omega,_,_,_,_,_,H,λu=>?_,λu=>?_⟩
  ·have u:(l.n:Int)=(pr.ps.n:Int):=u;have Y:args.length=pr.params.length:=by omega
   rw[if_pos Y]at N;refine AK (mk:=λk:Int=>.int .i64 k) (b0:=0) args.length (λj V1=>V1=V/\∀(i:Nat) f v,i<j->pr.params[i]?=some f->args[i]?=some v->AR d m f.ty v=true) ⟨rfl,λi f v h=>by omega⟩ ?_;rintro j b V1 J hj ⟨rfl,z⟩ hJ;refine⟨λx=>?_,λC=>?_⟩
   ·obtain⟨v,hvm,hv,-,D,E,K,T⟩:=I.get x;obtain⟨f,hfm,R,-,-,O,U,hr2⟩:=Z.get (i:=j) (by omega);refine⟨E,K,x,v,T,O,U,by omega,Ah O,_,_,hr2,(c167 r hm G).call ⟨_,rfl,λhb=>⟨I.succ x,hJ D _ _ ⟨rfl,λi g w hi' hg hw=>?_⟩⟩,λhb=>bad ?_ (by decide)⟩⟩
    ·rcases Nat.lt_or_ge i j with h3|h3;·exact z i g w h3 hg hw
     ·obtain rfl:i=j:=by omega
      rw[R]at hg;cases hg;rw[hv]at hw;cases hw;exact hb
    ·rw[N,if_neg λk=>hb ((Dk.1 k).2 j f v R hv)]
   ·have hd2:=(I.done C).2;have A:AB d m pr.params args=true:=Dk.2 ⟨Y.symm,λi f v R hv=>z i f v (by have:=(yv.1 hv).1;omega) R hv⟩;rw[if_pos A]at N;refine⟨?_,rfl⟩;rw[N,if_pos rfl,xh,L];rfl
  ·have u:¬(l.n:Int)=(pr.ps.n:Int):=u;exact bad (by rw[N,if_neg (by omega)]) (by decide)
noncomputable def Cb(d:Ds)(m:Mm)(F:Int):Int:=by
 classical
 exact if Am d m then(if F<0 then 2 else if 1048576<F then 2 else 0)else 1
theorem MC[Tab V](u:Ds.Ok V d)(hm:Mm.Ok V m){F:Int}:PP 67 [d.v,m.v,.int .i64 F] V (.int .i64 (Cb d m F)):=by
 refine Oc ?_;have bad:¬Am d m->(xJ (.int .i64 1)=.returned (.int .i64 (Cb d m F))/\V=V):=λh=>⟨by unfold Cb;rw[if_neg h],rfl⟩;refine(J8 scopeC newC u).call ?_;by_cases hv:A7 d=true
 ·rw[if_pos hv];refine⟨_,_,_,rfl,λg=>(Kr u hm).call ⟨_,rfl,λf=>?_,λf=>bad λk=>f k.mem⟩,λg=>bad λk=>g (by rw[k.chk];rfl)⟩;have G:Am d m:=⟨hv,chk_none g,f⟩;refine⟨λh=>⟨?_,rfl⟩,λh=>⟨λt=>⟨?_,rfl⟩,λt=>⟨?_,rfl⟩⟩⟩;·unfold Cb;rw[if_pos G,if_pos h]
  ·unfold Cb;rw[if_pos G,if_neg h,if_pos t]
  ·unfold Cb;rw[if_pos G,if_neg h,if_neg t]
 ·rw[if_neg hv];exact⟨_,_,_,rfl,λh=>absurd h (by decide),λ_=>bad λk=>hv k.valid⟩
end
theorem loop3u{V:Mem}{β h:Type}{mk:β->Value}{mc:h->Value}{B:β->h->Int->Mem->(KZ)->Prop}{b0:β}{c0:h}(inj:∀x y,mk x=mk y->x=y)(t:∀x y,mc x=mc y->x=y)(len:Nat)(St:Nat->β->h->Mem->Prop)(j:St 0 b0 c0 V)
  (step:∀(i:Nat)(b:β)(c:h) V1 J,i<=len->St i b c V1->(i<len->∀k g V2,St (i+1) k g V2->J [mk k,mc g,.int .i64 ((i:Int)+1)] V2)->B b c (i:Int) V1 J):
  ∃(I:Nat->KZ)(l:Nat),I l [mk b0,mc c0,.int .i64 0] V/\∀n V1,∀b:β,∀c:h,∀v:Int,I n [mk b,mc c,.int .i64 v] V1->∀J:KZ,(∀m ys f,m<n->I m ys f->J ys f)->B b c v V1 J:=by
 refine⟨LI len λi xs V=>∃b c,xs=[mk b,mc c,.int .i64 i]/\St i b c V,len,LI.start ⟨b0,c0,rfl,j⟩,?_⟩;rintro n V1 b c v ⟨i,rfl,r,k,g,z,e⟩ J H;simp only[List.cons.injEq,Value.int.injEq,true_and,and_true]at z;obtain⟨N,Z,rfl⟩:=z;cases inj _ _ N;cases t _ _ Z;exact step i b c V1 J r e λu k g V2 Y=>LI.next H u ⟨k,g,rfl,Y⟩
theorem MD{V:Mem}{m:Mm}(hm:Mm.Ok V m)(Z:m.globals.length<=2147483648)(D:m.nodes.length<=4096)(Y:∀n∈m.nodes,n.f.length<=2147483648):Tri xG 68 #[m.v] V λe V'=>∃gs ns nd,e=.returned (.agg #[.slice gs.p gs.n gs.c,.slice ns.p ns.n ns.c])/\AL V V' gs ns Ag nd (Bm m):=by
 refine OQ ?_;refine Tri.mono (c120 hm.globals Z) ?_;rintro _ V1 ⟨gs,rfl,u⟩;refine⟨gs,rfl,loop3u (mk:=λs:Sl=>.slice s.p s.n s.c) (mc:=λs:Sl=>.slice s.p s.n s.c) (b0:=gs) (c0:=⟨none,0,0⟩) AT AT m.nodes.length (λi b ns V2=>b=gs/\∃nd,AL V V2 gs ns Ag nd ⟨m.globals,(m.nodes.take i).map λn=>(n.ty,n.f),0,0,[]⟩/\nd.length=i) ⟨rfl,[],⟨u,Own.nil u.sub _ _,Own.nil u.sub _ _,(λn z=>by cases z),rfl,(λn z=>by cases z),(λi j n E c h=>by cases h)⟩,rfl⟩ ?_⟩;rintro i b ns V2 J K ⟨rfl,nd,L,y⟩ O;have l:=hm.nodes.sub L.sub;refine⟨λk=>?_,λr=>?_⟩
 ·obtain⟨x,g,A,-,H,I,R,t⟩:=l.get k;refine⟨I,R,k,x.ty,x.sl,t,Tri.mono (c120 ((hm.nodesOk x g).rows.sub L.sub) (Y x g)) ?_⟩;rintro _ T ⟨fs,rfl,X⟩;refine⟨fs,rfl,λU N=>L.new (n:=⟨x.ty,fs,x.f⟩) X N rfl rfl (by omega) λs' V' B _=>⟨s',rfl,l.succ k,O H _ _ _ ⟨rfl,nd++[⟨x.ty,fs,x.f⟩],?_,by rw[zw,y];rfl⟩⟩⟩;rw[vJ,A];simpa using B
 ·have C:=(l.done r).2;rw[wR C]at L;exact⟨b,ns,nd,rfl,L⟩
end Go.Proofs
namespace Go.Sx
open Go
section
variable{P:Program}{n:Nat}
theorem ME{F:Fence}{c:Code}{Q t:Exit->Act->List Frame->World->Prop}{a:Act}{cs:List Frame}{w:World}(h:c.wpSIn F n P Q a cs w)(u:∀e a cs w,Q e a cs w->t e a cs w):c.wpSIn F n P t a cs w:=
 λb k z y x g=>let⟨e,j,f,w',l,q,r⟩:=h b k z y x g;⟨e,j,f,w',l,u _ _ _ _ q,r⟩
theorem wpSIn_head{x:Code}:∀{c:Code}{rest:List Code}{Q:Exit->Act->List Frame->World->Prop}{a:Act}{cs:List Frame}{w:World},flat c=x::rest->x.wpSIn (Au none) n P (Exit.thenS (λa cs w=>Cq none n P (λe z w'=>Q e z cs w') rest a w) Q) a cs w->c.wpSIn (Au none) n P Q a cs w:=by
 intro c;induction c with
 |seq p q f j=>
  intro rest Q a cs w g h;rw[flat]at g;cases t:flat p with
  |nil=>
   exfalso;have:∀c:Code,flat c≠[]:=λc=>by
    induction c with
    |seq a b u l=>rw[flat];simp[u]
    |_=>simp[flat]
   exact this p t
  |cons y r=>
   rw[t,List.cons_append]at g;obtain⟨rfl,rfl⟩:y=x/\r++flat q=rest:=by
    simp_all
   refine wpSIn_seq (f t (ME h ?_));intro e a cs w k;cases e with
   |normal=>
    refine EI ?_ (Kg k);intro e a w k;cases e with
    |normal=>exact wpSIn_of_wpIn rfl (E9 k)
    |_=>exact k
   |_=>exact k
 |_=>
  intro rest Q a cs w g h;rw[flat]at g
  ·injection g with H J
   subst H;subst J;refine ME h ?_;intro e a cs w k;cases e with
   |normal=>exact k
   |_=>exact k
  all_goals (intro x y;nofun)
variable{ops:Array Oper}{i:Nat}{o:Oper}{rest:List Nat}{Q:Exit->Act->World->Prop}{a:Act}{w:World}
theorem Pp{f:FuncId}{fn:Func}{x c:Code}{rest:List Code}{id:Nat}{t y:Oper}{args:Array Value}{u:FrameMode}{R:Ending->FrameMode->World->Prop}{at0:Array TypeId}{t3 t6:Nat}(B:P.funcs[f]?=some fn)(C:fn.body=some c)(J:flat c=x::rest)(D:x=.region id #[t,y] false)
  (E:t.op=.call {callee:=.builtin .recover,args:=#[],argTypes:=at0}) (A:t.dst=some t6) (K:t.guard=none) (r:y.op=.assign (.tmp t6)) (T:y.dst=some t3) (U:y.guard=none) (h6:t6<fn.ntmps) (hd:args.size<=fn.ntmps)
  (H:∀(v:Value)(z:FrameMode),Rec u v z->
   Cq none n P (λe j w'=>(e=.normal∨e=.ret)/\j.defers=[]/\∃v,(results fn j.tmps).run P w'=.ok v w'/\R (.returned v) z w') rest ((({tmps:=args++xd (fn.ntmps-args.size) undef,defers:=[]}:Act).put (some t6) v).put (some t3) v) w):
  CallsDIn (Au none) n P f args u w R:=by
 refine callsDIn_of_wpSIn B C trivial λk cs hu=>?_;refine wpSIn_head J ?_;subst D;refine wpSIn_region ?_;have N:∀a:Act,(execOp a.eval t).run P w=.ok .recover w:=λa=>by
  unfold execOp;simp[E,resolve,invoke,builtin]
 have Z:∀a:Act,(execOp a.eval y).run P w=.ok (.value (a.eval (.tmp t6))) w:=λa=>by
  unfold execOp;simp[r]
 have I:∀(v:Value)(z:FrameMode)(g:List Frame),Rec u v z->g={k with mode:=z}::cs->
   wpOpsSIn (Au none) n P #[t,y] (Exit.thenS (λa g w=>Cq none n P (λe j w'=>bodyPostS P fn k cs R e j g w') rest a w) (bodyPostS P fn k cs R)) [1] (({tmps:=args++xd (fn.ntmps-args.size) undef,defers:=[]}:Act).put t.dst v) g w:=λv z g hv l=>by
  rw[wpOpsSIn.eq_2];simp only[w8,List.getElem?_cons_succ,xV];refine⟨λ_ _=>trivial,?_⟩;have hw:=Fx (ops:=#[t,y]) (a:=(({tmps:=args++xd (fn.ntmps-args.size) undef,defers:=[]}:Act).put t.dst v)) U;rw[if_pos hw,Z];simp only;rw[wpOpsSIn.eq_1];show Cq none n P (λe j w'=>bodyPostS P fn k cs R e j g w') rest _ w;have e:(({tmps:=args++xd (fn.ntmps-args.size) undef,defers:=[]}:Act).put t.dst v).eval (.tmp t6)=v:=by
   rw[A];exact E0 (a:={tmps:=args++xd (fn.ntmps-args.size) undef,defers:=[]}) (v:=v) (by simp;omega)
  rw[e,A,T];refine EI ?_ (H v z hv);rintro e j w' ⟨he,r,Y,L,X⟩;rcases he with rfl|rfl;·exact⟨r,z,l,Y,L,X⟩
  ·exact⟨r,z,l,Y,L,X⟩
 show wpOpsSIn _ _ _ _ _ [0,1] _ _ _;rw[wpOpsSIn.eq_2];simp only[w8,xV];refine⟨λ_ _=>trivial,?_⟩;have hw:=Fx (ops:=#[t,y]) (a:=({tmps:=args++xd (fn.ntmps-args.size) undef,defers:=[]}:Act)) K;simp only at hw;rw[if_pos hw,N];simp only;unfold recoverD;split
 ·rename_i v g h;simp only at h;split at h
  ·rename_i Y O hm;simp only[zF,Prod.mk.injEq]at h;obtain⟨rfl,rfl⟩:=h;rw[hu]at hm;exact I _ _ _ (by unfold Rec;rw[hm];exact⟨rfl,rfl⟩) rfl
  ·cases h
 ·rename_i h;simp only at h;split at h;·cases h
  ·rename_i hm;refine I _ u _ ?_ (by cases k;simp only at hu;subst hu;rfl);rw[hu]at hm;unfold Rec;split;·exact absurd rfl (hm _ _)
   ·exact⟨rfl,rfl⟩
end
end Go.Sx
