/- Part 24: no statement of the seat is proved here. -/
import Derived.Test.YtejinebghgaigaaGreatDoorPc23
set_option linter.unusedVariables false
set_option linter.unusedSimpArgs false
open List renaming length_map->xi,mem_of_getElem?->xr,take_add_one->w8,map_append->yQ,sum_append->uO
open Option renaming toList_some->vg
namespace Go.Proofs
open Go Go.Sx
attribute [local irreducible] Go.Sx.Tri
theorem ndp_le:∀(l c:List Int),l.Nodup->(∀x∈l,x∈c)->l.length<=c.length
 |[],_,_,_=>Nat.zero_le _
 |x::l,c,h,k=>by
  rw[List.nodup_cons]at h;have f:=k x List.mem_cons_self;have t:=ndp_le l (c.erase x) h.2 λy g=>(List.mem_erase_of_ne (by grind)).2 (k y (List.mem_cons_of_mem _ g));grind
theorem ndp_rng{l:List Int}{k:Int}(g:l.Nodup)(h:∀c∈l,1<=c/\c<=k)(f:0<=k):(l.length:Int)<=k:=by
 have:=ndp_le l ((List.range k.toNat).map λi:Nat=>(i:Int)+1) g λx t=>List.mem_map.2 ⟨(x-1).toNat,List.mem_range.2 (by grind),by grind⟩;simp_all
section
variable{V:Mem}{d:Ds}{l:Sl}{xs:List Sp}
theorem c5[Tab V](hd:Ds.Ok V d)(hl:GF V l xs){v:Int}:PP 5 [d.v,l.v,.int .i64 v] V (.bool true):=by
 obtain⟨R,hR⟩:∃R:Ending->Mem->Prop,R=λe V'=>e=.returned (.bool true)/\V.sub V':=⟨_,rfl⟩;refine Bf.mk ?_;rw[<-hR];refine x5 ?_;unfold w5;have c:∀{V'},V.sub V'->R (.returned (.bool true)) V':=λh=>by simp_all
 refine c9.call ⟨_,rfl,λ_=>?_,λh=>absurd rfl h⟩;refine Tri.mono (Nz hd hl) ?_;rintro _ _ ⟨rfl,b,rfl,Z⟩;refine⟨_,rfl,λ_=>c (Mem.sub.refl _),λhb=>?_⟩;have Z:=Z ((Bool.not_eq_true _).mp hb);refine Tri.mono (Ny hd hl (by omega)) ?_;rintro _ V3 ⟨s3,⟨hG,rfl⟩|⟨G,p,D,P,M,ps,rfl,hD,A,Y,hpl,hPO⟩⟩;·exact⟨_,_,_,_,_,_,_,_,_,_,_,_,rfl,λ_=>⟨λ_=>c s3,λh=>absurd rfl h⟩,λh=>absurd rfl h⟩
 refine⟨_,_,_,_,_,_,_,_,_,_,_,_,rfl,λ_=>⟨λh=>absurd h nn,λ_=>?_⟩,λh=>absurd rfl h⟩;obtain⟨vs,k,rfl,H⟩:=A;obtain⟨W,hDW,hWV,L,S⟩:=H.bs.use;have e3:=H.bs.sub;rw[xi]at hpl;have hMn:M.n=vs.length:=by rw[Y.lens.2,xi]
 have Q:BC (vs.map Vr.pv) v↔0<=v/\v<(vs.length:Int):=by grind[BC]
 refine Tri.mono (Lw S (v:=v) (λx hx=>(H.ok x hx).sub e3) H.inv.good) ?_;rintro _ r ⟨s4,a⟩;have S4:=S.grow s4;have cs:=Nr S4 (v:=v);have g:=(Y.sub e3).sub s4;have z4:=s3.trans s4;have O:=H.inv.k0;have hkm:=H.inv.km;have hks:=H.inv.small;obtain⟨ss,ms,q⟩:=g;have g:CR r P M (vs.map Vr.pv):=⟨ss,ms,q⟩;have hml:=q.ml;rw[xi]at hml;have loop:∀{B:Int->Int->Int->Mem->(KZ)->Prop},(∀(i:Nat)(x y:Int) J,i<=vs.length->0<=x->x<=k->y=(((vs.take i).map λw=>w.m.nodes.length).sum:Nat)->(i<vs.length->∀x' y':Int,0<=x'->x'<=k->y'=(((vs.take (i+1)).map λw=>w.m.nodes.length).sum:Nat)->J [.int .i64 x',.int .i64 y',.int .i64 ((i:Int)+1)] r)->B x y (i:Int) r J)->
   ∃(I:Nat->KZ)(n0:Nat),I n0 [.int .i64 0,.int .i64 0,.int .i64 0] r/\∀n V1,∀x y z:Int,I n [.int .i64 x,.int .i64 y,.int .i64 z] V1->∀J:KZ,(∀m ys F,m<n->I m ys F->J ys F)->B x y z V1 J:=λ{B} hB=>by
  refine loop3b (mk:=.int .i64) (mc:=.int .i64) (b0:=0) (c0:=0) Cu Cu vs.length (λi x y V1=>V1=r/\0<=x/\x<=k/\y=(((vs.take i).map λw=>w.m.nodes.length).sum:Nat)) ⟨rfl,Int.le_refl _,O,by simp⟩ ?_;simp_all
 have row:∀i:Nat,i<vs.length->∃(m:Mm)(w:Vr),vs[i]?=some w/\w∈vs/\¬M.p=none/\(0:Int)<=(i:Int)/\(i:Int)<(M.n:Int)/\r.rowp M.p (i*2) 2=some [m.gs.v,m.ns.v]/\m.ns.n=w.m.nodes.length/\w.m.nodes.length<=4096:=λi hi=>by
  obtain⟨m,hm,hmx,-,-,hp,hz,C⟩:=q.mr.get (i:=i) (by omega);obtain⟨w,hw⟩:∃w,vs[i]?=some w:=⟨_,List.getElem?_eq_getElem hi⟩;have E:=q.mok i m w.pv hmx (by simp_all);have f:=xr hw;exact⟨m,w,hw,f,hp,hz,by omega,C,by rw[E.1.nodes.n_eq];exact Ha E.2,(BG (H.inv.good w f).mem).2.1⟩
 have o:∀w∈vs,(w.m.nodes.length:Int)<=k:=λw hw=>by
  have:=ndp_rng (H.inv.dup w hw) (H.inv.rng w hw) O;rw[H.inv.cl w hw]at this;exact this
 have t:∀i:Nat,(((vs.take i).map λw=>w.m.nodes.length).sum:Nat)<=4096*i:=λi=>by
  induction i with
  |zero=>simp
  |succ i ih=>
   by_cases hi:i<vs.length
   ·obtain⟨m,w,hw,f,-,-,-,-,-,h5⟩:=row i hi;rw[w8,hw,vg,yQ,uO];grind
   grind[List.take_of_length_le]
 have last:∀{x y:Int}{K:RP}{X:Prop},x<=k->y=(((vs.take vs.length).map λw=>w.m.nodes.length).sum:Nat)->X->Br (k<x) (K KQ r) (Br (y<k) (K KQ r) X):=λh1 h2 hX=>by
  rw[List.take_length]at h2;exact⟨λh=>absurd (show k<_ from h) (by omega),λ_=>⟨λh=>absurd (show _<k from h) (by omega),λ_=>hX⟩⟩
 rcases a with⟨T,rfl⟩|⟨U,x,gs,ns,nd,hx,rfl,Ly⟩
 ·have c4:CD 0 vs.length [v]=24:=by rw[GB,if_neg T]
  have f4:Fi vs v=0:=by grind[Fi]
  rw[c4,f4]at cs;have zm:Mm.Ok r ⟨Ai,[],Ai,[]⟩:=⟨Ad.nil,(λ_ h=>by cases h),Ad.nil,(λ_ h=>by cases h)⟩;refine⟨_,_,_,rfl,cs.call ⟨_,_,rfl,loop λi x y J hi h1 h2 h3 hJ=>⟨λu=>?_,λj=>?_⟩⟩⟩
  ·have u:(i:Int)<(M.n:Int):=u;obtain⟨m,w,hw,f,g1,g2,g3,g4,g5,g6⟩:=row i (by omega);have hk:=o w f;have hs:=t i;refine⟨g1,g2,g3,_,_,g4,GenK.max2 (n1:=x) (n2:=(m.ns.n:Int)) rfl rfl ⟨_,rfl,⟨by omega,by omega⟩,⟨by omega,by omega⟩,hJ (by omega) _ _ ?_ ?_ ?_⟩⟩;·split<;>omega
   ·split<;>omega
   grind[w8,vg]
  ·have j:¬(i:Int)<(M.n:Int):=j;obtain rfl:i=vs.length:=by omega
   refine(O5 S4).call ⟨_,rfl,last (K:=R) h2 h3 ?_⟩;exact(c22 g).call ⟨_,rfl,λh=>absurd (Q.1 (of_decide_eq_true h)) T,λ_=>(MZ zm zm).call ⟨_,rfl,λ_=>⟨λ_=>⟨λ_=>c z4,λh=>absurd rfl h⟩,λh=>absurd rfl h⟩,λh=>absurd (decide_eq_true rfl) h⟩⟩
 ·have c4:CD 0 vs.length [v]=0:=by rw[GB,if_pos U]
  have f4:Fi vs v=x.m.ns.n:=by grind[Fi]
  rw[c4,f4]at cs;have hxm:=xr hx;obtain⟨am,ap⟩:=ok_copy ((H.ok x hxm).mem.sub e3) Ly;have hv:=Q.2 U;refine⟨_,_,_,rfl,cs.call ⟨_,_,rfl,loop λi y z J hi h1 h2 h3 hJ=>⟨λu=>?_,λj=>?_⟩⟩⟩
  ·have u:(i:Int)<(M.n:Int):=u;obtain⟨m,w,hw,f,g1,g2,g3,g4,g5,g6⟩:=row i (by omega);have hk:=o w f;have hs:=t i;refine⟨g1,g2,g3,_,_,g4,GenK.max2 (n1:=y) (n2:=(m.ns.n:Int)) rfl rfl ⟨_,rfl,⟨by omega,by omega⟩,⟨by omega,by omega⟩,hJ (by omega) _ _ ?_ ?_ ?_⟩⟩;·split<;>omega
   ·split<;>omega
   grind[w8,vg]
  ·have j:¬(i:Int)<(M.n:Int):=j;obtain rfl:i=vs.length:=by omega
   obtain⟨m,s,hm2,hm3,hm4,hm5,N⟩:=g.mem hv;have hgd:((vs.map Vr.pv).getD v.toNat pv0).m=x.m.plain:=by rw[List.getD_eq_getElem?_getD,List.getElem?_map,hx];rfl
   rw[hgd]at N;have heq:(⟨gs,x.m.globals,ns,nd⟩:Mm).plain=m.plain:=ap.trans N.symm;refine(O5 S4).call ⟨_,rfl,last (K:=R) h2 h3 ?_⟩;refine(c22 g).call ⟨_,rfl,λ_=>⟨λ_=>⟨s,hm2,hm3,_,_,hm4,(MZ am hm5).call ⟨_,rfl,λ_=>⟨λ_=>⟨s,hm2,hm3,Al s,_,_,hm4,?_⟩,λh=>absurd rfl h⟩,λh=>absurd (decide_eq_true heq) h⟩⟩,λh=>absurd rfl h⟩,λh=>absurd (decide_eq_true hv) h⟩;have hmn:m.ns.n=x.m.ns.n:=by rw[hm5.nodes.n_eq,(H.ok x hxm).mem.nodes.n_eq];exact Ha N
   grind
end
end Go.Proofs
