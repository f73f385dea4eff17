/- Part 8: no statement of the seat is proved here. -/
import Derived.Test.YtgdmkmfchcflpaaGreatDoorPe07
set_option linter.unusedVariables false
set_option linter.unusedSimpArgs false
open List renaming getElem?_eq_some_iff->yv,mem_cons->yD,not_mem_nil->xC,find?_cons->xZ,findIdx?_cons->ym,findIdx?->yk,findIdx?_eq_some_iff_getElem->yg,getElem?_eq_getElem->yu
open Go.Builtin renaming append_->y7,zeroCells->y9
open Go.Sem renaming run_bind->zK,run_pure->zM
open Go.Result renaming andThen_ok->zL
open Go.Proofs.Tryz renaming prog->xE,underlying267->xX,underlying9->xW,underlying209->xy
open Go.Ending renaming returned->xI
open Option renaming getD_some->xY,none_or->xz,map_eq_some_iff->zi
open Go.Instr renaming findKey->yj,checkKey->yi,keyThatStays->xx,mapUpdate->yp,findNow->yn,sameBits->xv
open Bool renaming false_eq_true->zN,and_eq_true->zC
open Go.MapKept renaming run_getObj_map->yh,run_setObj_map->yf
open Array renaming getElem?_eq_getElem->yT,toList_modify->ye
open Go.Value renaming int->xw
namespace Go.Proofs
open Go Go.Sx
attribute [local irreducible] Go.Sx.Tri
theorem FY{c k:Nat}{p:Option Addr}:(if(c:Int)=(0:Int)then p else Aa p ((0:Int).toNat*k))=p:=by
 have:Aa p ((0:Int).toNat*k)=p:=by
  rw[show(0:Int).toNat*k=0 by simp];cases p with
  |none=>rfl
  |some a=>show some (a.add 0)=_;unfold Addr.add;rw[if_pos rfl]
 split;·rfl
 ·exact this
theorem sub0{n:Nat}:((n:Int)-(0:Int)).toNat=n:=by omega
theorem Ad.pre{α:Type}{V:Mem}{l:Sl}{sz:Nat}{row:α->List Value}{xs:List α}(h:Ad V l sz (xs.map row)){i:Nat}(hi:i<=xs.length):Ad V ⟨l.p,i,l.c⟩ sz ((xs.take i).map row):=by
 have k:=h.n_eq;have u:=h.cap;refine⟨by simp[hi],by grind,h.fit,λr z=>h.size r ?_,λj r y=>h.at_ j r ?_⟩;·grind
 grind
theorem E7{V:Mem}{p:Option Addr}{off n:Nat}{vs:List Value}(h:V.rowp p off n=some vs):V.rowp (Aa p off) 0 n=some vs:=by
 cases p with
 |none=>cases h
 |some a=>
  have:(a.add off).add 0=a.add off:=by rfl
  show V.row ((a.add off).add 0) n=_;rw[this];exact h
theorem c189{V:Mem}{x:Ty}:PP 189 [x.v] V (.string x.name):=by
 refine x189 ?_;exact⟨rfl,rfl⟩
theorem c228{V:Mem}{b1 b2 b3 N Z Y i:Nat}{l:Sl}{xs:List Ty}{x y:Ty}(u:V b1=some (cell (.func (.func 189) #[] #[]) N))(z:V b2=some (cell (.slice l.p l.n l.c) Z))(r:V b3=some (cell (.int .i64 i) Y))
  (q:Ad V l 2 (xs.map Ty.row)) (o:xs[i]?=some y):PP 228 [x.v,pv b1,pv b2,pv b3] V (.bool (decide (x.name=y.name))):=by
 refine x228 ?_;have O:=q.n_eq;have W:=(yv.1 o).1;have k:(i:Int)<(l.n:Int):=by omega
 obtain⟨A,hm,H,Q,I,J,G,h⟩:=q.get k;rw[o]at H;cases H;exact⟨.func (.func 189) #[] #[],rfl,Al u,.func (.func 189) #[] #[],rfl,Al u,l,Al z,_,Al r,J,G,k,_,_,h,_,_,_,rfl,Tryz.call189,(c189 (x:=x)).callv (first:=[]) (caps:=[]) ⟨_,rfl,E7 h,J,G,k,Al r,Al z,Al u,_,_,_,rfl,Tryz.call189,(c189 (x:=y)).callv (first:=[]) (caps:=[]) ⟨_,rfl,rfl,rfl⟩⟩⟩
theorem c188{V:Mem}{l:Sl}{xs:List Ty}{i:Nat}{y:Ty}(u:Ad V l 2 (xs.map Ty.row))(r:xs[i]?=some y):PP 188 [l.v,.int .i64 i,.func (.func 189) #[] #[]] V (.bool ((xs.take i).any λg=>decide (g.name=y.name))):=by
 refine AP.mk (x188 (a:=l) (c:=.func (.func 189) #[] #[]) ?_);have o:=u.n_eq;have H:=u.cap;have q:=(yv.1 r).1;refine⟨⟨by omega,by omega,by omega⟩,λb1 z b2 k b3 h=>?_⟩;have s:=(Mem.sub_new z _).trans ((Mem.sub_new k _).trans (Mem.sub_new h (cell (.int .i64 i) 3)));simp only[FY,sub0];refine(c111 (l:=⟨l.p,i,l.c⟩) (first:=[]) (caps:=[pv b1,pv b2,pv b3]) (Ad.pre (u.sub s) (by omega)) Tryz.call228 (λg=>decide (g.name=y.name)) (λx _=>c228 ((Mem.sub_new h _) _ _ ((Mem.sub_new k _) _ _ As)) ((Mem.sub_new h _) _ _ As) As (u.sub s) r)).call ⟨_,rfl,rfl,s⟩
theorem c192{V:Mem}{x:Fld}:PP 192 [x.v] V (.string x.name):=by
 refine x192 ?_;exact⟨rfl,rfl⟩
theorem c230{V:Mem}{b1 b2 b3 N Z Y i:Nat}{l:Sl}{xs:List Fld}{x y:Fld}(u:V b1=some (cell (.func (.func 192) #[] #[]) N))(z:V b2=some (cell (.slice l.p l.n l.c) Z))(r:V b3=some (cell (.int .i64 i) Y))
  (q:Ad V l 2 (xs.map Fld.row)) (o:xs[i]?=some y):PP 230 [x.v,pv b1,pv b2,pv b3] V (.bool (decide (x.name=y.name))):=by
 refine x230 ?_;have O:=q.n_eq;have W:=(yv.1 o).1;have k:(i:Int)<(l.n:Int):=by omega
 obtain⟨A,hm,H,Q,I,J,G,h⟩:=q.get k;rw[o]at H;cases H;exact⟨.func (.func 192) #[] #[],rfl,Al u,.func (.func 192) #[] #[],rfl,Al u,l,Al z,_,Al r,J,G,k,_,_,h,_,_,_,rfl,Tryz.call192,(c192 (x:=x)).callv (first:=[]) (caps:=[]) ⟨_,rfl,E7 h,J,G,k,Al r,Al z,Al u,_,_,_,rfl,Tryz.call192,(c192 (x:=y)).callv (first:=[]) (caps:=[]) ⟨_,rfl,rfl,rfl⟩⟩⟩
theorem c191{V:Mem}{l:Sl}{xs:List Fld}{i:Nat}{y:Fld}(u:Ad V l 2 (xs.map Fld.row))(r:xs[i]?=some y):PP 191 [l.v,.int .i64 i,.func (.func 192) #[] #[]] V (.bool ((xs.take i).any λg=>decide (g.name=y.name))):=by
 refine AP.mk (x191 (a:=l) (c:=.func (.func 192) #[] #[]) ?_);have o:=u.n_eq;have H:=u.cap;have q:=(yv.1 r).1;refine⟨⟨by omega,by omega,by omega⟩,λb1 z b2 k b3 h=>?_⟩;have s:=(Mem.sub_new z _).trans ((Mem.sub_new k _).trans (Mem.sub_new h (cell (.int .i64 i) 3)));simp only[FY,sub0];refine(c107 (l:=⟨l.p,i,l.c⟩) (first:=[]) (caps:=[pv b1,pv b2,pv b3]) (Ad.pre (u.sub s) (by omega)) Tryz.call230 (λg=>decide (g.name=y.name)) (λx _=>c230 ((Mem.sub_new h _) _ _ ((Mem.sub_new k _) _ _ As)) ((Mem.sub_new h _) _ _ As) As (u.sub s) r)).call ⟨_,rfl,rfl,s⟩
theorem c195{V:Mem}{x:Pr}:PP 195 [x.v] V (.string x.name):=by
 refine x195 ?_;exact⟨rfl,rfl⟩
theorem c231{V:Mem}{b1 b2 b3 N Z Y i:Nat}{l:Sl}{xs:List Pr}{x y:Pr}(u:V b1=some (cell (.func (.func 195) #[] #[]) N))(z:V b2=some (cell (.slice l.p l.n l.c) Z))(r:V b3=some (cell (.int .i64 i) Y))
  (q:Ad V l 5 (xs.map Pr.row)) (o:xs[i]?=some y):PP 231 [x.v,pv b1,pv b2,pv b3] V (.bool (decide (x.name=y.name))):=by
 refine x231 ?_;have O:=q.n_eq;have W:=(yv.1 o).1;have k:(i:Int)<(l.n:Int):=by omega
 obtain⟨A,hm,H,Q,I,J,G,h⟩:=q.get k;rw[o]at H;cases H;exact⟨.func (.func 195) #[] #[],rfl,Al u,.func (.func 195) #[] #[],rfl,Al u,l,Al z,_,Al r,J,G,k,_,_,_,_,_,h,_,_,_,rfl,Tryz.call195,(c195 (x:=x)).callv (first:=[]) (caps:=[]) ⟨_,rfl,E7 h,J,G,k,Al r,Al z,Al u,_,_,_,rfl,Tryz.call195,(c195 (x:=y)).callv (first:=[]) (caps:=[]) ⟨_,rfl,rfl,rfl⟩⟩⟩
theorem c194{V:Mem}{l:Sl}{xs:List Pr}{i:Nat}{y:Pr}(u:Ad V l 5 (xs.map Pr.row))(r:xs[i]?=some y):PP 194 [l.v,.int .i64 i,.func (.func 195) #[] #[]] V (.bool ((xs.take i).any λg=>decide (g.name=y.name))):=by
 refine AP.mk (x194 (a:=l) (c:=.func (.func 195) #[] #[]) ?_);have o:=u.n_eq;have H:=u.cap;have q:=(yv.1 r).1;refine⟨⟨by omega,by omega,by omega⟩,λb1 z b2 k b3 h=>?_⟩;have s:=(Mem.sub_new z _).trans ((Mem.sub_new k _).trans (Mem.sub_new h (cell (.int .i64 i) 3)));simp only[FY,sub0];refine(c144 (l:=⟨l.p,i,l.c⟩) (first:=[]) (caps:=[pv b1,pv b2,pv b3]) (Ad.pre (u.sub s) (by omega)) Tryz.call231 (λg=>decide (g.name=y.name)) (λx _=>c231 ((Mem.sub_new h _) _ _ ((Mem.sub_new k _) _ _ As)) ((Mem.sub_new h _) _ _ As) As (u.sub s) r)).call ⟨_,rfl,rfl,s⟩
theorem c198{V:Mem}{x:Ms}:PP 198 [x.v] V (.string x.name):=by
 refine x198 ?_;exact⟨rfl,rfl⟩
theorem c234{V:Mem}{b1 b2 b3 N Z Y i:Nat}{l:Sl}{xs:List Ms}{x y:Ms}(u:V b1=some (cell (.func (.func 198) #[] #[]) N))(z:V b2=some (cell (.slice l.p l.n l.c) Z))(r:V b3=some (cell (.int .i64 i) Y))
  (q:Ad V l 7 (xs.map Ms.row)) (o:xs[i]?=some y):PP 234 [x.v,pv b1,pv b2,pv b3] V (.bool (decide (x.name=y.name))):=by
 refine x234 ?_;have O:=q.n_eq;have W:=(yv.1 o).1;have k:(i:Int)<(l.n:Int):=by omega
 obtain⟨A,hm,H,Q,I,J,G,h⟩:=q.get k;rw[o]at H;cases H;exact⟨.func (.func 198) #[] #[],rfl,Al u,.func (.func 198) #[] #[],rfl,Al u,l,Al z,_,Al r,J,G,k,_,_,_,_,_,_,_,h,_,_,_,rfl,Tryz.call198,(c198 (x:=x)).callv (first:=[]) (caps:=[]) ⟨_,rfl,E7 h,J,G,k,Al r,Al z,Al u,_,_,_,rfl,Tryz.call198,(c198 (x:=y)).callv (first:=[]) (caps:=[]) ⟨_,rfl,rfl,rfl⟩⟩⟩
theorem c197{V:Mem}{l:Sl}{xs:List Ms}{i:Nat}{y:Ms}(u:Ad V l 7 (xs.map Ms.row))(r:xs[i]?=some y):PP 197 [l.v,.int .i64 i,.func (.func 198) #[] #[]] V (.bool ((xs.take i).any λg=>decide (g.name=y.name))):=by
 refine AP.mk (x197 (a:=l) (c:=.func (.func 198) #[] #[]) ?_);have o:=u.n_eq;have H:=u.cap;have q:=(yv.1 r).1;refine⟨⟨by omega,by omega,by omega⟩,λb1 z b2 k b3 h=>?_⟩;have s:=(Mem.sub_new z _).trans ((Mem.sub_new k _).trans (Mem.sub_new h (cell (.int .i64 i) 3)));simp only[FY,sub0];refine(c233 (l:=⟨l.p,i,l.c⟩) (first:=[]) (caps:=[pv b1,pv b2,pv b3]) (Ad.pre (u.sub s) (by omega)) Tryz.call234 (λg=>decide (g.name=y.name)) (λx _=>c234 ((Mem.sub_new h _) _ _ ((Mem.sub_new k _) _ _ As)) ((Mem.sub_new h _) _ _ As) As (u.sub s) r)).call ⟨_,rfl,rfl,s⟩
theorem c201{V:Mem}{x:Iv}:PP 201 [x.v] V (.string x.name):=by
 refine x201 ?_;exact⟨rfl,rfl⟩
theorem c236{V:Mem}{b1 b2 b3 N Z Y i:Nat}{l:Sl}{xs:List Iv}{x y:Iv}(u:V b1=some (cell (.func (.func 201) #[] #[]) N))(z:V b2=some (cell (.slice l.p l.n l.c) Z))(r:V b3=some (cell (.int .i64 i) Y))
  (q:Ad V l 6 (xs.map Iv.row)) (o:xs[i]?=some y):PP 236 [x.v,pv b1,pv b2,pv b3] V (.bool (decide (x.name=y.name))):=by
 refine x236 ?_;have O:=q.n_eq;have W:=(yv.1 o).1;have k:(i:Int)<(l.n:Int):=by omega
 obtain⟨A,hm,H,Q,I,J,G,h⟩:=q.get k;rw[o]at H;cases H;exact⟨.func (.func 201) #[] #[],rfl,Al u,.func (.func 201) #[] #[],rfl,Al u,l,Al z,_,Al r,J,G,k,_,_,_,_,_,_,h,_,_,_,rfl,Tryz.call201,(c201 (x:=x)).callv (first:=[]) (caps:=[]) ⟨_,rfl,E7 h,J,G,k,Al r,Al z,Al u,_,_,_,rfl,Tryz.call201,(c201 (x:=y)).callv (first:=[]) (caps:=[]) ⟨_,rfl,rfl,rfl⟩⟩⟩
theorem c200{V:Mem}{l:Sl}{xs:List Iv}{i:Nat}{y:Iv}(u:Ad V l 6 (xs.map Iv.row))(r:xs[i]?=some y):PP 200 [l.v,.int .i64 i,.func (.func 201) #[] #[]] V (.bool ((xs.take i).any λg=>decide (g.name=y.name))):=by
 refine AP.mk (x200 (a:=l) (c:=.func (.func 201) #[] #[]) ?_);have o:=u.n_eq;have H:=u.cap;have q:=(yv.1 r).1;refine⟨⟨by omega,by omega,by omega⟩,λb1 z b2 k b3 h=>?_⟩;have s:=(Mem.sub_new z _).trans ((Mem.sub_new k _).trans (Mem.sub_new h (cell (.int .i64 i) 3)));simp only[FY,sub0];refine(c235 (l:=⟨l.p,i,l.c⟩) (first:=[]) (caps:=[pv b1,pv b2,pv b3]) (Ad.pre (u.sub s) (by omega)) Tryz.call236 (λg=>decide (g.name=y.name)) (λx _=>c236 ((Mem.sub_new h _) _ _ ((Mem.sub_new k _) _ _ As)) ((Mem.sub_new h _) _ _ As) As (u.sub s) r)).call ⟨_,rfl,rfl,s⟩
theorem c203{V:Mem}{x:Bd}:PP 203 [x.v] V (.string x.proc):=by
 refine x203 ?_;exact⟨rfl,rfl⟩
theorem c237{V:Mem}{b1 b2 b3 N Z Y i:Nat}{l:Sl}{xs:List Bd}{x y:Bd}(u:V b1=some (cell (.func (.func 203) #[] #[]) N))(z:V b2=some (cell (.slice l.p l.n l.c) Z))(r:V b3=some (cell (.int .i64 i) Y))
  (q:Ad V l 5 (xs.map Bd.row)) (o:xs[i]?=some y):PP 237 [x.v,pv b1,pv b2,pv b3] V (.bool (decide (x.proc=y.proc))):=by
 refine x237 ?_;have O:=q.n_eq;have W:=(yv.1 o).1;have k:(i:Int)<(l.n:Int):=by omega
 obtain⟨A,hm,H,Q,I,J,G,h⟩:=q.get k;rw[o]at H;cases H;exact⟨.func (.func 203) #[] #[],rfl,Al u,.func (.func 203) #[] #[],rfl,Al u,l,Al z,_,Al r,J,G,k,_,_,_,_,_,h,_,_,_,rfl,Tryz.call203,(c203 (x:=x)).callv (first:=[]) (caps:=[]) ⟨_,rfl,E7 h,J,G,k,Al r,Al z,Al u,_,_,_,rfl,Tryz.call203,(c203 (x:=y)).callv (first:=[]) (caps:=[]) ⟨_,rfl,rfl,rfl⟩⟩⟩
theorem c202{V:Mem}{l:Sl}{xs:List Bd}{i:Nat}{y:Bd}(u:Ad V l 5 (xs.map Bd.row))(r:xs[i]?=some y):PP 202 [l.v,.int .i64 i,.func (.func 203) #[] #[]] V (.bool ((xs.take i).any λg=>decide (g.proc=y.proc))):=by
 refine AP.mk (x202 (a:=l) (c:=.func (.func 203) #[] #[]) ?_);have o:=u.n_eq;have H:=u.cap;have q:=(yv.1 r).1;refine⟨⟨by omega,by omega,by omega⟩,λb1 z b2 k b3 h=>?_⟩;have s:=(Mem.sub_new z _).trans ((Mem.sub_new k _).trans (Mem.sub_new h (cell (.int .i64 i) 3)));simp only[FY,sub0];refine(c182 (l:=⟨l.p,i,l.c⟩) (first:=[]) (caps:=[pv b1,pv b2,pv b3]) (Ad.pre (u.sub s) (by omega)) Tryz.call237 (λg=>decide (g.proc=y.proc)) (λx _=>c237 ((Mem.sub_new h _) _ _ ((Mem.sub_new k _) _ _ As)) ((Mem.sub_new h _) _ _ As) As (u.sub s) r)).call ⟨_,rfl,rfl,s⟩
end Go.Proofs
namespace Go.Proofs
open Go Go.Sx
theorem wrap_id{n:Nat}(h:n<=2147483648):IntKind.wrap .i64 (n:Int)=n:=Eh ⟨by show(-9223372036854775808:Int)<=n;omega,by show(n:Int)<=9223372036854775807;omega⟩
theorem N4{P:Program}(w:World)(t u ty e:TypeId)(i:TypeInfo)(z:Value)(p:P.underlying t=some (.slice e))(v:P.underlying u=some (.int .i64))(hi:P.info? e=some i)(H:i.zero=some z)
  (n:Nat) (J:0<n) (o:n<=2147483648) (G:i.bytes<=65536) (Z:0<i.size):
  (y7 #[t,u] ty #[.slice none 0 0,.int .i64 n]).run P w=
   .ok (.slice (some ⟨w.heap.size,0,none⟩) n (grownCap w n 0 e)) (w.drew.alloc (.cells (y9 z.cells n++y9 z.cells (grownCap w n 0 e-n)) e)):=by
 have l:n≠0:=by omega
 have h:¬(9223372036854775807<(n:Int)):=by omega
 have N:n*i.bytes<=281474976710656:=Nat.le_trans (Nat.mul_le_mul o G) (by decide);have k:¬(281474976710656<Builtin.nextslicecap n 0*i.bytes):=by rw[nextslicecap_zero J];omega
 have y:¬(281474976710656<(n:Int)*(i.bytes:Int)):=by omega
 have r:¬((n:Int)<0):=by omega
 have q:i.size≠0:=by omega
 simp[y7,run_underlying p,run_underlying v,sizeOf,typeInfo,zeroValue,hi,H,l,h,k,y,r,q,wrap_id o,asInt,asIntOf,Question.forced,run_firstCells_none,newRow,grownCap];simp_all[absurd,Nat.ne_of_gt,Nat.mul_pos]
theorem GenK.appendZ{P:Program}{V0 V:Mem}{t u e ty:TypeId}{i:TypeInfo}{z:Value}{sz:Nat}(G:P.underlying t=some (.slice e))(N:P.underlying u=some (.int .i64))(hi:P.info? e=some i)(Z:i.zero=some z)(l:i.size=sz)(r:z.cells.size=sz)(o:0<sz)(p:i.bytes<=65536)
  {x y:Operand} {vals:Operand->Value} {n:Nat} (Y:vals x=.slice none 0 0) (W:vals y=.int .i64 n) (Q:0<n) (O:n<=2147483648) (J:V0.sub V) {q:Value->Mem->Prop}
  (A:∀b c V',Own V0 V' e sz ⟨some ⟨b,0,none⟩,0,c⟩ []->n<=c->c<=9223372036854775807->q (.slice (sa b) n c) V'):
  GenK P (.call {callee:=.builtin .append,args:=#[x,y],argTypes:=#[t,u]}) ty vals V q:=by
 intro w hw;subst l;have I:=N4 (P:=P) w t u ty e i z G N hi Z n Q O p o;obtain⟨k,M⟩:=Aq.new hw (.cells (y9 z.cells n++y9 z.cells (grownCap w n 0 e-n)) e);have v:=grownCap_ge w n 0 e;have H:=grownCap_le_maxLen w n 0 e (by simp only[maxLen];omega);refine⟨_,_,_,?_,M,A w.heap.size (grownCap w n 0 e) _ ⟨Mem.sub.new J k _,by simp,.inr ⟨w.heap.size,_,rfl,?_,Mem.set_same _ _ _,Nat.zero_le _,H,?_,by simp⟩⟩ v (by grind[maxLen])⟩
 ·unfold execOp;simp only[resolve,invoke,builtin,zK,zM,zL,List.map_toArray,List.map_cons,List.map_nil,Y,W,I]
 ·cases h:V0 w.heap.size with
  |none=>rfl
  |some x=>rw[J _ _ h]at k;cases k
 ·simp only[Array.size_append,size_zeroCells,r,<-Nat.add_mul];simp_all
section
variable{V:Mem}
theorem growF{V0:Mem}(k:V0.sub V){n:Nat}(o:n<=1000000):Tri xE 232 #[.slice none 0 0,.int .i64 n] V λr V'=>∃s:Sl,r=.returned (.slice s.p s.n s.c)/\Own V0 V' 108 2 s []:=by
 refine x232 (a:=⟨none,0,0⟩) ?_;refine⟨λh=>absurd h (by omega),λ_=>⟨⟨by simp,by simp⟩,⟨by simp<;>omega,by simp<;>omega⟩,λh=>⟨⟨by simp,by simp,by simp⟩,?_⟩,λh=>⟨⟨none,0,0⟩,rfl,Own.nil k _ _⟩⟩⟩;have u:xE.info? 108=some (ti 108):=by kernel_rfl
 have z:(ti 108).zero=some ((ti 108).zero.getD undef):=by kernel_rfl
 have y:(ti 108).size=2:=by kernel_rfl
 have i:((ti 108).zero.getD undef).cells.size=2:=by kernel_rfl
 have l:(ti 108).bytes<=65536:=by rw[show(ti 108).bytes=32 by kernel_rfl];omega
 refine GenK.appendZ (n:=n) Tryz.underlying23 Tryz.underlying3 u z y i (by decide) l rfl ?_ (by simp at h;omega) (by omega) k λb c V' v H q=>⟨⟨some ⟨b,0,none⟩,n,c⟩,rfl,⟨by simp,by simp,by simp⟩,?_⟩;·rfl
 ·simp only[FY];grind
theorem concatF{l:Sl}{ls:List (Sl×List Fld)}(h:Ad V l 1 (ls.map λx=>[x.1.v]))(o:∀x∈ls,Ad V x.1 2 (x.2.map Fld.row))(I:ls.length<=100)(H:∀x∈ls,x.2.length<=1000):
  Tri xE 196 #[.slice l.p l.n l.c] V λr V'=>∃s:Sl,r=.returned (.slice s.p s.n s.c)/\V.sub V'/\Ad V' s 2 ((ls.flatMap (·.2)).map Fld.row):=by
 refine x196 ?_;have D:=h.n_eq;refine Cz (mk:=.int .i64) Ax ls.length (λi n V1=>V=V1/\0<=n/\n<=1000*i) ⟨rfl,by omega,by omega⟩ ?_;rintro i n V1 J M ⟨rfl,L,R⟩ Z;refine⟨λz=>?_,λG=>?_⟩
 ·obtain⟨x,hm,X,Y,W,Q,O,y⟩:=h.get z;have E:=(o x hm).n_eq;have B:=H x hm;exact⟨Q,O,z,x.1,y,⟨by omega,by omega⟩,λN=>absurd N (by omega),λ_=>⟨h.succ z,Z W _ _ ⟨rfl,by omega,by omega⟩⟩⟩
 ·obtain⟨k,rfl⟩:=Int.eq_ofNat_of_zero_le L;refine Tri.mono (growF (Mem.sub.refl V) (n:=k) (by omega)) ?_;rintro _ V1 ⟨s,rfl,q⟩;refine⟨s,rfl,?_⟩;refine Cz (mk:=λs:Sl=>.slice s.p s.n s.c) (b0:=s) AG ls.length (λi s V2=>Own V V2 108 2 s (((ls.take i).flatMap (·.2)).flatMap Fld.row)/\((ls.take i).flatMap (·.2)).length<=1000*i) ⟨q,by simp⟩ ?_;rintro i s V2 J M ⟨q,R⟩ Z;have A:=h.sub q.sub;refine⟨λz=>?_,λG=>?_⟩
  ·obtain⟨x,hm,X,Y,W,Q,O,y⟩:=A.get z;have B:=H x hm;refine⟨Q,O,z,x.1,y,?_⟩;refine EK (s:=s) (u:=x.1) (xs:=(ls.take i).flatMap (·.2)) (ys:=x.2) rfl rfl q ((o x hm).sub q.sub) (by omega) λs' V' C=>⟨s',rfl,A.succ z,Z W _ _ ?_⟩;grind
  ·have:=(A.done G).2;rw[List.take_of_length_le this]at q;exact⟨s,rfl,q.sub,ownF q⟩
end
end Go.Proofs
namespace Go.Proofs
open Go Go.Sx
attribute [local irreducible] Go.Sx.Tri
section
variable{V:Mem}{d:Ds}{c:Option Addr}{m:Option Nat}{sc:Sc}
theorem c239(h:Bs V c d)(hv:Eb d)(A:Ev V m sc)(N:sc.body=true){x:S}(D:S.Ok V x)(hsh:Dl x.op x.s x.es x.ls.length x.xs.length=true){res:KB}:
  PP 239 [sV c m sc,x.v,.string res] V (.int .i64 (Es d sc res x.op x.s x.es)):=by
 obtain⟨a6,a134,a2,a5,alen,I⟩:=Ma hsh;rw[S.v_eq];refine AP.mk (x239 ?_);have hf:=I2 D;refine⟨λE=>?_,λE=>?_⟩
 ·obtain⟨K,H,-⟩:=a6 E;rcases hf with⟨h',-⟩|⟨e0',r,T,hn,hp0,hp2,o⟩;·simp_all
  ·rw[H]at T;cases T;have M:=I K (by rw[H];simp);have L:=D.eOk K (by rw[H];simp);have hk:∀y∈K.k,ImpE V d c m sc y:=λy hy=>impExpr h hv A y (L.kids y hy) 2 (I3 M y hy);refine⟨hp0,by omega,by omega,_,_,_,_,o,(impCall h K L (arity (HW M)).2.2.2 hk).call ⟨_,_,rfl,?_⟩⟩;unfold Es rawT GA;rw[if_pos E,H];simp only[if_pos N];split;·exact⟨rfl,Mem.sub.refl _⟩
   ·exact⟨rfl,Mem.sub.refl _⟩
 ·unfold Es;rw[if_neg E];have hr:=D.eRows;refine FR (mk:=.int .i64) (mc:=λs:Sl=>.slice s.p s.n s.c) 0 ⟨none,0,0⟩ AG x.es.length (λi s V2=>∃acc,Own V V2 9 1 s (acc.flatMap CD)/\partsT d sc [] x.es=partsT d sc acc (x.es.drop i)/\acc.length=i) ⟨[],Own.nil (Mem.sub.refl _) _ _,rfl,rfl⟩ ?_;rintro i b s V2 J hi ⟨acc,z,l,Z⟩ hJ;have G:=hr.sub z.sub;refine⟨λY=>?_,λR=>?_⟩
  ·obtain⟨y,hm,hxy,hdr,hl,hpp,hz,o⟩:=G.get Y;rw[hdr,Hb]at l;refine⟨hpp,hz,Y,_,_,_,_,o,(impExpr h hv A y (D.eOk y hm) 1 (I y hm) V2 z.sub).call ⟨_,_,rfl,λO=>?_,λO=>?_⟩⟩
   ·intro b1 hb1;rw[if_neg (λh=>h O)]at l;refine app229 (s:=s) (u:=⟨some ⟨b1,0,none⟩,1,1⟩) (xs:=acc) (ys:=[(CX d sc y).1]) rfl rfl (z.new hb1 _) (HX As) (by grind) λs' V' ho=>⟨s',rfl,G.succ Y,hJ hl _ _ _ ⟨_,ho,l,by simp[Z]⟩⟩
   ·rw[if_pos O]at l;rw[l];simp only[O,ne_eq,not_false_eq_true,if_true];exact⟨by trivial,z.sub⟩
  ·have hge':=(G.done R).2;rw[(G.done R).1,HV]at l;rw[l];simp only[ne_eq,not_true_eq_false,if_false];have q:=ownS z;have hal:acc.length=x.es.length:=by omega
   have hsub:=z.sub;have U:=h.sub z.sub;have sln:=q.n_eq;have W:=λh:0<acc.length=>Eu q h;have at1:=λh:1<acc.length=>Eu q h;have key:∀X n:Int,X=n->(xI (.int .i64 n)=xI (.int .i64 X)/\V.sub V2):=λX n h=>by simp_all
   refine⟨λo1=>?_,λo1=>⟨λo2=>?_,λo2=>⟨λo3=>?_,λo3=>⟨λo4=>?_,λo4=>⟨λo5=>?_,λo5=>key _ _ ?_⟩⟩⟩⟩⟩
   ·obtain⟨b1,b2,b3⟩:=W (by omega);obtain⟨mb,rfl,B⟩:=(A.sub z.sub).at_;rw[if_pos o1,Mc];refine Bl.str xX xW zero9 B ?_;cases C:BB sc.vars x.s with
    |none=>
     rw[Option.getD_none];exact⟨_,_,rfl,λh=>absurd h (by simp),λ_=>key _ _ (if_pos rfl)⟩
    |some t=>
     rw[xY];refine⟨t,_,rfl,λ_=>⟨b1,by omega,b2,_,b3,(c257 U).call ⟨_,rfl,λQ=>key _ _ ?_,λQ=>key _ _ ?_⟩⟩,λh=>absurd rfl h⟩;·rw[if_neg (A.ne.some C),if_pos Q]
     ·rw[if_neg (A.ne.some C),if_neg Q]
   ·obtain⟨b1,b2,b3⟩:=W (by omega);obtain⟨c1,c2,c3⟩:=at1 (by omega);rw[if_neg o1,if_pos o2];refine⟨b1,by omega,b2,_,b3,(c258 U hv).call ⟨_,_,rfl,λQ=>⟨c1,by omega,c2,_,c3,(c257 U).call ⟨_,rfl,λhc=>key _ _ ?_,λhc=>key _ _ ?_⟩⟩,λQ=>key _ _ ?_⟩⟩;·simp_all
    ·simp_all
    omega
   ·grind[AR]
   ·grind[AR]
   ·have h5:=a5 o5;rw[if_neg o1,if_neg o2,if_neg (by omega),if_pos o5];refine⟨λhn=>?_,λhn=>?_⟩;·grind[sE]
    ·have O:¬acc.length=0:=by omega
     obtain⟨b1,b2,b3⟩:=W (by omega);rw[if_neg O];refine⟨λT=>key _ _ (by grind[sE]),λT=>⟨b1,by omega,b2,_,b3,(c257 U).call ⟨_,rfl,λQ=>key _ _ ?_,λQ=>key _ _ ?_⟩⟩⟩;·grind[sE]
     simp_all
   omega
def placeT(r:Int×Int):Int:=if r.2=0 then 0 else r.1
def CI(V:Mem)(b t:Nat)(a:Int)(V1:Mem):Prop:=(V.set b (cell (.int .i64 a) t)).sub V1
theorem CI.st{b t:Nat}{a k:Int}{V1:Mem}(h:CI V b t a V1):CI V b t k (V1.set b (cell (.int .i64 k) t)):=λq o u=>by
 by_cases e:q=b;·grind[Mem.set_same]
 ·rw[Mem.set_ne e]at u⊢;exact h q o (by rw[Mem.set_ne e];exact u)
theorem CI.call{b t:Nat}{a k:Int}{V1 V2:Mem}(h:CI V b t a V1)(u:CI V1 b t k V2):CI V b t k V2:=(CI.st h).trans u
theorem CI.cell{b t:Nat}{a:Int}{V1:Mem}(h:CI V b t a V1):V1 b=some (Sx.cell (.int .i64 a) t):=h _ _ As
theorem CI.base{V0:Mem}{b t:Nat}{a:Int}{V1:Mem}(h:CI V b t a V1)(k:V0.sub V)(u:V0 b=none):V0.sub V1:=(k.set u _).trans h
theorem CI.other{b t q:Nat}{a:Int}{V1:Mem}{o:Obj}(h:CI V b t a V1)(k:V q=some o)(u:q≠b):V1 q=some o:=h _ _ (by rw[Mem.set_ne u];exact k)
def ImpS(V0:Mem)(d:Ds)(c:Option Addr)(m:Option Nat)(sc:Sc)(res:KB)(b t:Nat)(l:List S):Prop:=∀(V:Mem)(sl:Sl)(n k:Int),V0.sub V->V b=some (cell (.int .i64 n) t)->Ad V0 sl 5 (l.map S.row)->(∀x∈l,S.Ok V0 x)->CW k l=true->0<=n->n+Cj l<=1000->
 Tri xE 205 #[sV c m sc,.slice sl.p sl.n sl.c,.string res,pv b] V λr V'=>r=.returned (.tuple #[.int .i64 (placeT (Az d sc res n l)),.int .i64 (Az d sc res n l).2])/\∃h,CI V b t h V'/\((Az d sc res n l).2=0->h=(Az d sc res n l).1)
theorem impStep{V0:Mem}{b t:Nat}{res:KB}(T:V0 b=none)(h:Bs V0 c d)(hv:Eb d)(hs:Ev V0 m sc)(Q:sc.body=true){l:List S}(hk:∀x∈l,ImpS V0 d c m sc res b t x.ls/\ImpS V0 d c m sc res b t x.xs):ImpS V0 d c m sc res b t l:=by
 intro V sl n dd U hcell hr hok L hn0 hn1;refine x205 ?_;refine Da l.length (λi V1=>∃a,CI V b t a V1/\0<=a/\a+Cj (l.drop i)<=1000/\Az d sc res n l=Az d sc res a (l.drop i)) ⟨n,by grind[CI,Mem.set_eq,Mem.sub.refl],hn0,hn1,rfl⟩ ?_;rintro i b' c' V1 J hi ⟨a,Z,ha0,ha1,Y⟩ hJ;have v:=Z.base U T;have z:=Z.cell;have bad:∀{V2:Mem}(p e k:Int),CI V b t k V2->e≠0->Az d sc res n l=(p,e)->(xI (.tuple #[.int .i64 p,.int .i64 e])=xI (.tuple #[.int .i64 (placeT (Az d sc res n l)),.int .i64 (Az d sc res n l).2])/\∃E,CI V b t E V2/\((Az d sc res n l).2=0->E=(Az d sc res n l).1)):=λ{V2} p e k h1 h2 H=>by
  rw[H];unfold placeT;grind
 refine⟨λO=>?_,λhge=>?_⟩
 ·obtain⟨x,hm,hx,R,hl,hpp,hz,G⟩:=(hr.sub v).get O;have G:=S.row_get G;have N:=hok x hm;obtain⟨hsh,hk1,hk2⟩:=okS_shape (Kt L x hm);rw[R,Ku,szS_eq]at ha1;rw[R,Ks,stT_eq]at Y;have hC:=CI.st (k:=a+1) Z;have A:=hC.base U T;have cs:=c239 (h.sub A) hv (hs.sub A) Q (N.sub A) hsh (res:=res);rw[S.v_eq]at cs;refine⟨hpp,hz,O,_,_,_,_,_,G,by simp,_,Al z,by simp,_,Al z,⟨by omega,by omega⟩,by simp,AQ.cell z (cs.call ⟨_,rfl,λh0=>?_,λh0=>?_⟩)⟩
  ·have e1:¬(Es d sc res x.op x.s x.es≠0):=λh=>h h0;rw[if_neg e1]at Y;intro b1 hb1;have X:b1≠b:=λe=>by grind[Mem.set_same]
   have hC2:CI V b t (a+1) _:=Mem.sub.new hC hb1 (.cells #[.slice x.ll.p x.ll.n x.ll.c,.slice x.xl.p x.xl.n x.xl.c] 142 (0,0));have r:=Gz d sc res (a+1) x.ls;refine Da 2 (λj V2=>∃k,CI V b t k V2/\V2 b1=some (.cells #[.slice x.ll.p x.ll.n x.ll.c,.slice x.xl.p x.xl.n x.xl.c] 142 (0,0))/\((j=0/\k=a+1)∨(j=1/\(Az d sc res (a+1) x.ls).2=0/\k=(Az d sc res (a+1) x.ls).1)∨(j=2/\(Az d sc res (a+1) x.ls).2=0/\(Az d sc res (Az d sc res (a+1) x.ls).1 x.xs).2=0/\k=(Az d sc res (Az d sc res (a+1) x.ls).1 x.xs).1))) ⟨a+1,hC2,Mem.set_same _ _ _,.inl ⟨rfl,rfl⟩⟩ ?_;rintro j b'' c'' V2 J1 hj ⟨k,u,q,B⟩ C;have W:=u.base U T;refine⟨λhj2=>?_,λhj2=>?_⟩
   ·rcases B with⟨rfl,rfl⟩|⟨rfl,o,rfl⟩|⟨rfl,-⟩
    ·refine⟨by simp[Aa],by omega,by omega,x.ll,At q 0 1 (by simp),Tri.mono ((hk x hm).1 V2 x.ll (a+1) (dd+1) W u.cell N.lRows N.lOk hk1 (by omega) (by omega)) ?_⟩;rintro _ V3 ⟨rfl,E,y,I⟩;refine⟨_,_,rfl,λH=>?_,λH=>?_⟩
     ·have:=I H;subst this;exact⟨⟨by omega,by omega⟩,C (by omega) _ _ _ ⟨_,u.call y,y.other q X,.inr (.inl ⟨rfl,H,rfl⟩)⟩⟩
     ·have M:(Az d sc res (a+1) x.ls).2≠0:=H;rw[if_pos M,if_pos M]at Y;refine bad _ _ _ (u.call y) M ?_;grind
    ·have M:¬(Az d sc res (a+1) x.ls).2≠0:=λh=>h o;rw[if_neg M]at Y;have r:=r o;refine⟨by simp[Aa],by omega,by omega,x.xl,At q 1 1 (by simp),Tri.mono ((hk x hm).2 V2 x.xl _ (dd+1) W u.cell N.xRows N.xOk hk2 (by omega) (by omega)) ?_⟩;rintro _ V3 ⟨rfl,E,y,I⟩;refine⟨_,_,rfl,λH=>?_,λH=>?_⟩
     ·have:=I H;subst this;exact⟨⟨by omega,by omega⟩,C (by omega) _ _ _ ⟨_,u.call y,y.other q X,.inr (.inr ⟨rfl,o,H,rfl⟩)⟩⟩
     ·have K:(Az d sc res (Az d sc res (a+1) x.ls).1 x.xs).2≠0:=H;rw[if_pos K]at Y;refine bad _ _ _ (u.call y) K ?_;grind
    ·omega
   ·rcases B with⟨rfl,-⟩|⟨rfl,-⟩|⟨rfl,o,D,rfl⟩;·omega
    ·omega
    ·have M:¬(Az d sc res (a+1) x.ls).2≠0:=λh=>h o;have K:¬(Az d sc res (Az d sc res (a+1) x.ls).1 x.xs).2≠0:=λh=>h D;rw[if_neg M,if_neg K]at Y;have r:=r o;have hn2':=Gz d sc res _ x.xs D;exact⟨(hr.sub v).succ O,hJ hl _ _ _ ⟨_,u,by omega,by omega,Y⟩⟩
  grind
 ·rw[((hr.sub v).done hge).1,stsT_nil]at Y;rw[Y];exact⟨rfl,a,Z,λ_=>rfl⟩
theorem impStmts{V0:Mem}{b t:Nat}{res:KB}(u:V0 b=none)(h:Bs V0 c d)(z:Eb d)(y:Ev V0 m sc)(k:sc.body=true)(l:List S):ImpS V0 d c m sc res b t l:=by
 have i:∀s:S,ImpS V0 d c m sc res b t s.ls/\ImpS V0 d c m sc res b t s.xs:=by
  intro s;induction s using S.ind with
  |h s r q=>grind[impStep]
 grind[impStep]
theorem c229{b t:Nat}{f x:Fld}(h:V b=some (.cells #[.string f.name,.string f.ty] t (0,0))):PP 229 [x.v,pv b] V (.bool (decide (x.name=f.name))):=by
 refine x229 ?_;exact⟨by simp,_,At h 0 1 (by simp),rfl,rfl⟩
theorem c190(h:Bs V c d){l:Sl}{xs:List Fld}(Y:Ad V l 2 (xs.map Fld.row)):PP 190 [.pointer c,l.v] V (.int .i64 (CH d xs)):=by
 refine AP.mk (x190 ?_);unfold CH;generalize R:(λi f=>if BY d xs i f≠0 then some (BY d xs i f)else none)=fn;refine Av xs.length (λk V1=>V.sub V1/\Aj fn 0 xs=Aj fn k (xs.drop k)) ⟨Mem.sub.refl _,rfl⟩ ?_;rintro k b V1 J B ⟨W,r⟩ Q;have u:=Y.sub W;refine⟨λq=>?_,λq=>?_⟩
 ·obtain⟨g,O,A,o,H,G,N,z⟩:=u.get q;rw[o]at r;have C:=u.cap;refine⟨G,N,q,_,_,z,⟨by omega,by omega,by omega⟩,λb1 Z=>?_⟩;have I:=Mem.sub_new Z (.cells #[.string g.name,.string g.ty] 108 (0,0));have y:=W.trans I;simp only[FY,sub0];have key:∀X n:Int,X=n->(xI (.int .i64 n)=xI (.int .i64 X)/\V.sub (V1.set b1 (.cells #[.string g.name,.string g.ty] 108 (0,0)))):=λX n h=>by simp_all
  refine(c107 (l:=⟨l.p,k,l.c⟩) (first:=[]) (caps:=[pv b1]) (Ad.pre (Y.sub y) (by omega)) Tryz.call229 (λx=>decide (x.name=g.name)) (λx _=>c229 (f:=g) As)).call ⟨_,rfl,λM=>?_,λM=>⟨by simp[Aa],_,At As 1 1 (by simp),(c193 (h.sub y)).call ⟨_,rfl,λL=>?_,λL=>?_⟩⟩⟩
  ·have e:BY d xs k g=10:=by grind[BY]
   rw[r,A7 (b:=10) (by grind)];grind
  ·have e:BY d xs k g=0:=by grind[BY]
   exact⟨u.succ q,Q H _ _ ⟨y,by rw[r,Bm (by grind)]⟩⟩
  ·have e:BY d xs k g=9:=by grind[BY]
   rw[r,A7 (b:=9) (by grind)];grind
 ·rw[(u.done q).1,Aj]at r;simp_all
def FltAt(V:Mem)(p:Option Addr)(o:Option Flt):Prop:=match o with
 |none=>p=none
 |some r=>∃b t,p=some ⟨b,0,none⟩/\V b=some (.cells #[.string r.1,.int .i64 r.2.1,.int .i64 r.2.2] t (0,0))
def FltC(f:FuncId)(args:List Value)(V:Mem)(o:Option Flt):Prop:=Tri xE f args.toArray V λr V'=>∃p,r=.returned (.pointer p)/\V.sub V'/\FltAt V' p o
theorem c207(h:Bs V c d)(i:Eb d)(l:Ev V m sc){e:E}(r:E.Ok V e)(u:CA 1 e=true){s t:KB}:
  FltC 207 [sV c m sc,.string s,e.v,.string t] V (if Ba d sc e t≠0 then some (s,-1,Ba d sc e t)else none):=by
 refine x207 ?_;unfold Ba;refine(impExpr h i l e r 1 u V (Mem.sub.refl _)).call ⟨_,_,rfl,λk=>⟨λz=>?_,λz=>λb y=>?_⟩,λk=>λb y=>?_⟩;·simp only[k,z,ne_eq,not_true_eq_false,if_false,if_true];exact⟨_,rfl,Mem.sub.refl _,rfl⟩
 ·simp only[k,z,ne_eq,not_true_eq_false,if_false];exact⟨_,rfl,Mem.sub_new y _,b,_,rfl,Mem.set_same _ _ _⟩
 ·simp only[k,ne_eq,not_false_eq_true,if_true];exact⟨_,rfl,Mem.sub_new y _,b,_,rfl,Mem.set_same _ _ _⟩
end
def FZ:Prop:=∀(V:Mem)(c:Option Addr)(d:Ds)(body:Bool)(l:Sl)(ls:List (Sl×List Fld)),Bs V c d->Ad V l 1 (ls.map λx=>[x.1.v])->(∀x∈ls,Ad V x.1 2 (x.2.map Fld.row))->
 Tri xE 238 #[.pointer c,.bool body,.slice l.p l.n l.c] V λr V'=>∃mb,r=.returned (.agg #[.pointer c,.map (some mb),.bool body])/\V.sub V'/\V mb=none/\A6 V' mb (λk=>(BB (ls.flatMap (·.2)++d.globals) k).map Value.string)
def NewC:Prop:=∀(V:Mem)(d:Ds),Ds.Ok V d->Tri xE 104 #[d.v] V λr V'=>∃c,r=.returned (.pointer c)/\V.sub V'/\Bs V' c d
section
variable{V:Mem}{d:Ds}{c:Option Addr}
theorem I5{a b:List Fld}(h:NE a)(k:NE b):NE (a++b):=λf z=>by
 rcases List.mem_append.1 z with u|u;·exact h f u
 ·exact k f u
theorem impInProc(l:FZ)(h:Bs V c d)(z:Eb d){p:Pr}(hm:p∈d.procs)(y:Pr.Ok V p):Tri xE 204 #[.pointer c,p.v] V λr V'=>∃m,r=.returned (sV c m (Cm d p))/\V.sub V'/\Ev V' m (Cm d p):=by
 refine x204 ?_;intro b q;have u:=Mem.sub_new q (.cells #[.slice p.ps.p p.ps.n p.ps.c,.slice p.ls.p p.ls.n p.ls.c] 23 (0,0));refine Tri.mono (l _ c d true ⟨some ⟨b,0,none⟩,2,2⟩ [(p.ps,p.params),(p.ls,p.locals)] (h.sub u) (Ad.cells (xs:=[(p.ps,p.params),(p.ls,p.locals)]) (row:=λx=>[x.1.v]) As rfl (λ_=>rfl) rfl (by simp)) ?_) ?_
 ·intro x i;simp only[yD,xC,or_false]at i;rcases i with rfl|rfl;·exact y.params.sub u
  ·exact y.locals.sub u
 ·rintro _ V' ⟨mb,rfl,o,J,H⟩;refine⟨_,_,_,rfl,some mb,rfl,u.trans o,⟨mb,rfl,H.congr λk=>?_⟩,I5 (I5 (z.params p hm).1 (z.params p hm).2) z.globals⟩;simp[Cm]
theorem impInBound(i:FZ)(h:Bs V c d)(z:Eb d){p:Pr}(hm:p∈d.procs)(l:Pr.Ok V p):Tri xE 208 #[.pointer c,p.v] V λr V'=>∃m,r=.returned (sV c m (DP d p))/\V.sub V'/\Ev V' m (DP d p):=by
 refine x208 ?_;intro b q;have u:=Mem.sub_new q (.cells #[.slice p.ps.p p.ps.n p.ps.c] 23 (0,0));refine Tri.mono (i _ c d false ⟨some ⟨b,0,none⟩,1,1⟩ [(p.ps,p.params)] (h.sub u) (Ad.cells (xs:=[(p.ps,p.params)]) (row:=λx=>[x.1.v]) As rfl (λ_=>rfl) rfl (by simp)) ?_) ?_
 ·intro x y;simp only[yD,xC,or_false]at y;rcases y with rfl;exact l.params.sub u
 ·rintro _ V' ⟨mb,rfl,o,J,H⟩;refine⟨_,_,_,rfl,some mb,rfl,u.trans o,⟨mb,rfl,H.congr λk=>?_⟩,I5 (z.params p hm).1 z.globals⟩;simp[DP]
theorem KA(q:FZ)(h:Bs V c d)(z:Eb d){t:KB}:Tri xE 206 #[.pointer c,.string t] V λr V'=>∃m,r=.returned (sV c m (Bf d t))/\V.sub V'/\Ev V' m (Bf d t):=by
 refine x206 ?_;refine Tri.mono (q V c d false ⟨none,0,0⟩ [] h Ad.nil (by simp)) ?_;rintro _ V' ⟨mb,rfl,y,p,i⟩;refine⟨_,_,_,rfl,λu=>?_,λu=>?_⟩
 ·refine⟨some mb,rfl,y,⟨mb,rfl,i.congr λk=>?_⟩,?_⟩;·grind[Bf,sE]
  ·unfold Bf sE;rw[if_pos u];exact z.globals
 ·refine BQ.str xX xW i λo v=>?_;refine⟨some mb,rfl,y.set p _,⟨mb,rfl,v.congr λk=>?_⟩,?_⟩
  ·unfold Bf sE;rw[if_neg u];unfold BB;simp only[List.flatMap_nil,List.nil_append,List.cons_append,xZ];rw[show(⟨#[116,104,105,115]⟩:KB)=sThisF from rfl];grind
  ·unfold Bf sE;rw[if_neg u];refine I5 (λf l=>?_) z.globals;simp only[yD,xC,or_false]at l;subst l;exact u
theorem DQ{V1:Mem}{X:Option Flt}{s:KB}{n e:Int}(k:X=some (s,n,e))(h:V.sub V1):Af [(.string s),(.int .i64 n),(.int .i64 e)] 180 V1 λu V2=>(∃p,xI (.pointer (Aa u 0))=.returned (.pointer p)/\V.sub V2/\FltAt V2 p X):=λb z=>by
 subst k;exact⟨some ⟨b,0,none⟩,rfl,h.trans (Mem.sub_new z _),b,_,rfl,Mem.set_same _ _ _⟩
theorem oneT_cases(d:Ds)(l:List Fld)(i:Nat)(f:Fld):((l.take i).any (λg=>decide (g.name=f.name))=true/\BY d l i f=10)∨(¬(l.take i).any (λg=>decide (g.name=f.name))=true/\Cd d f.ty=true/\BY d l i f=0)∨(¬(l.take i).any (λg=>decide (g.name=f.name))=true/\¬Cd d f.ty=true/\BY d l i f=9):=by
 grind[BY,Cd,inr]
theorem impTypes(h:Bs V c d):FltC 149 [.pointer c] V (Gw d):=by
 refine x149 ?_;unfold Gw;refine⟨h.nn,h.nn,Ak h.nn,d.ts,h.cell (i:=1) rfl,?_⟩;unfold types1;generalize W:(λi (t:Ty)=>if(d.types.take i).any (λg=>decide (g.name=t.name))=true then some ((t.name,-1,10):Flt)else none)=F1;refine Av d.types.length (λk V1=>V=V1/\Aj F1 0 d.types=Aj F1 k (d.types.drop k)) ⟨rfl,rfl⟩ ?_;rintro k b V1 J Y ⟨rfl,u⟩ r;have q:=Mem.sub.refl V;refine⟨λz=>?_,λz=>?_⟩
 ·obtain⟨g,hm,N,l,o,p,v,y⟩:=h.ok.types.get z;rw[l]at u;refine⟨p,v,z,_,_,y,h.nn,h.nn,Ak h.nn,d.ts,h.cell (i:=1) rfl,(c188 h.ok.types N).call ⟨_,rfl,λH=>DQ ?_ q,λH=>⟨h.ok.types.succ z,r o _ _ ⟨rfl,?_⟩⟩⟩⟩;·rw[u,A7 (b:=(g.name,-1,10)) (by grind)];rfl
  ·rw[u,Bm (by grind)]
 rw[(h.ok.types.done z).1,Aj]at u;rw[u,xz];refine⟨h.nn,h.nn,Ak h.nn,d.ts,h.cell (i:=1) rfl,?_⟩;unfold types2;generalize Q:(λ(_:Nat) (t:Ty)=>if CH d t.fields≠0 then some ((t.name,-1,CH d t.fields):Flt)else none)=F2;refine Av d.types.length (λk V1=>V=V1/\Aj F2 0 d.types=Aj F2 k (d.types.drop k)) ⟨rfl,rfl⟩ ?_;rintro k b V1 J Y ⟨rfl,u⟩ r;refine⟨λz=>?_,λz=>?_⟩
 ·obtain⟨g,hm,N,l,o,p,v,y⟩:=h.ok.types.get z;rw[l]at u;refine⟨p,v,z,_,_,y,(c190 h (h.ok.typesOk g hm).fields).call ⟨_,rfl,λH=>⟨h.ok.types.succ z,r o _ _ ⟨rfl,?_⟩⟩,λH=>DQ ?_ q⟩⟩;·rw[u,Bm (by grind)]
  ·rw[u,A7 (b:=(g.name,-1,CH d g.fields)) (by grind)];rfl
 rw[(h.ok.types.done z).1,Aj]at u;rw[u,xz];refine⟨h.nn,h.nn,Ak h.nn,d.gs,h.cell (i:=2) rfl,?_⟩;unfold types3;generalize O:(λi (f:Fld)=>if BY d d.globals i f≠0 then some ((f.name,-1,BY d d.globals i f):Flt)else none)=F3;refine Av d.globals.length (λk V1=>V=V1/\Aj F3 0 d.globals=Aj F3 k (d.globals.drop k)) ⟨rfl,rfl⟩ ?_;rintro k b V1 J Y ⟨rfl,u⟩ r;refine⟨λz=>?_,λz=>?_⟩
 ·obtain⟨g,hm,N,l,o,p,v,y⟩:=h.ok.globals.get z;rw[l]at u;have Z:=oneT_cases d d.globals k g;refine⟨p,v,z,_,_,y,h.nn,h.nn,Ak h.nn,d.gs,h.cell (i:=2) rfl,(c191 h.ok.globals N).call ⟨_,rfl,λH=>DQ ?_ q,λH=>(c193 h).call ⟨_,rfl,λA=>⟨h.ok.globals.succ z,r o _ _ ⟨rfl,?_⟩⟩,λA=>DQ ?_ q⟩⟩⟩
  ·rcases Z with⟨_,e⟩|⟨G,_⟩|⟨G,_⟩;·rw[u,A7 (b:=(g.name,-1,10)) (by grind)]
   ·grind
   simp_all
  ·rcases Z with⟨G,_⟩|⟨_,_,e⟩|⟨_,G,_⟩;·grind
   ·rw[u,Bm (by grind)]
   simp_all
  ·rcases Z with⟨G,_⟩|⟨_,G,_⟩|⟨_,_,e⟩;·grind
   ·grind
   ·rw[u,A7 (b:=(g.name,-1,9)) (by grind)]
 rw[(h.ok.globals.done z).1,Aj]at u;rw[u];exact⟨none,rfl,q,rfl⟩
theorem impHeads(h:Bs V c d)(Z:Small d):FltC 150 [.pointer c] V (FW d):=by
 refine x150 ?_;unfold FW;refine⟨h.nn,h.nn,Ak h.nn,d.ps,h.cell (i:=3) rfl,?_⟩;generalize o:(λi (p:Pr)=>if(d.procs.take i).any (λg=>decide (g.name=p.name))=true then some ((p.name,-1,10):Flt)else if CH d (p.params++p.locals)≠0 then some (p.name,-1,CH d (p.params++p.locals))else if p.result≠sE/\Cd d p.result=false then some (p.name,-1,9)else none)=F1;refine Av d.procs.length (λk V1=>V.sub V1/\Aj F1 0 d.procs=Aj F1 k (d.procs.drop k)) ⟨Mem.sub.refl _,rfl⟩ ?_;rintro k b V1 J S ⟨G,y⟩ L;have r:=h.sub G;refine⟨λq=>?_,λq=>?_⟩
 ·obtain⟨g,hm,N,Y,R,E,K,H⟩:=r.ok.procs.get q;rw[Y]at y;have X:=r.ok.procsOk g hm;have T:=Z.2 g hm;refine⟨E,K,q,_,_,_,_,_,H,h.nn,h.nn,Ak h.nn,d.ps,r.cell (i:=3) rfl,(c194 r.ok.procs N).call ⟨_,rfl,λW=>DQ ?_ G,λW=>?_⟩⟩;·rw[y,A7 (b:=(g.name,-1,10)) (by grind)]
  intro b1 Q;have O:=Mem.sub_new Q (.cells #[.slice g.ps.p g.ps.n g.ps.c,.slice g.ls.p g.ls.n g.ls.c] 23 (0,0));refine Tri.mono (concatF (l:=⟨some ⟨b1,0,none⟩,2,2⟩) (ls:=[(g.ps,g.params),(g.ls,g.locals)]) (Ad.cells (xs:=[(g.ps,g.params),(g.ls,g.locals)]) (row:=λx=>[x.1.v]) As rfl (λ_=>rfl) rfl (by simp)) ?_ (by simp) ?_) ?_
  ·intro x N;simp only[yD,xC,or_false]at N;rcases N with rfl|rfl;·exact X.params.sub O
   ·exact X.locals.sub O
  ·simp_all
  rintro _ V2 ⟨s',rfl,A,z⟩;have u:=G.trans (O.trans A);have I:([(g.ps,g.params),(g.ls,g.locals)]:List (Sl×List Fld)).flatMap (·.2)=g.params++g.locals:=by simp
  rw[I]at z;refine⟨s',rfl,(c190 (h.sub u) z).call ⟨_,rfl,λB=>?_,λB=>DQ ?_ u⟩⟩
  ·have C:¬(CH d (g.params++g.locals)≠0):=λe=>e B;refine⟨λM=>⟨r.ok.procs.succ q,L R _ _ ⟨u,?_⟩⟩,λM=>(c193 (h.sub u)).call ⟨_,rfl,λD=>⟨r.ok.procs.succ q,L R _ _ ⟨u,?_⟩⟩,λD=>DQ ?_ u⟩⟩;·rw[y,Bm (by rw[<-o];exact(if_neg W).trans ((if_neg C).trans (if_neg λe=>e.1 M)))]
   ·rw[y,Bm (by grind)]
   ·rw[y,A7 (b:=(g.name,-1,9)) (by rw[<-o];exact(if_neg W).trans ((if_neg C).trans (if_pos ⟨M,eq_false_of_ne_true D⟩)))]
  ·rw[y,A7 (b:=(g.name,-1,CH d (g.params++g.locals))) (by grind)]
 rw[(r.ok.procs.done q).1,Aj]at y;rw[y];exact⟨none,rfl,G,rfl⟩
end
section
variable{V:Mem}{d:Ds}{c:Option Addr}
theorem impForm(h:Bs V c d):FltC 151 [.pointer c] V (DE d):=by
 refine x151 ?_;unfold DE;have o:=Mem.sub.refl V;refine⟨h.nn,h.nn,Ak h.nn,d.ms,h.cell (i:=4) rfl,?_⟩;unfold form1;generalize I:(λi (m:Ms)=>if(d.measures.take i).any (λg=>decide (g.name=m.name))=true then some ((m.name,-1,10):Flt)else if Ck d m.ty=false then some (m.name,-1,9)else none)=F1;refine Av d.measures.length (λk V1=>V=V1/\Aj F1 0 d.measures=Aj F1 k (d.measures.drop k)) ⟨rfl,rfl⟩ ?_;rintro k b V1 J O ⟨rfl,u⟩ r;refine⟨λz=>?_,λz=>?_⟩
 ·obtain⟨g,hm,Y,l,q,v,H,y⟩:=h.ok.measures.get z;rw[l]at u;refine⟨v,H,z,_,_,_,_,_,_,_,y,h.nn,h.nn,Ak h.nn,d.ms,h.cell (i:=4) rfl,(c197 h.ok.measures Y).call ⟨_,rfl,λG=>DQ ?_ o,λG=>(c199 h).call ⟨_,rfl,λN=>⟨h.ok.measures.succ z,r q _ _ ⟨rfl,?_⟩⟩,λN=>DQ ?_ o⟩⟩⟩;·rw[u,A7 (b:=(g.name,-1,10)) (by grind)];rfl
  ·rw[u,Bm (by grind)]
  ·rw[u,A7 (b:=(g.name,-1,9)) (by grind)];rfl
 rw[(h.ok.measures.done z).1,Aj]at u;rw[u,xz];refine⟨h.nn,h.nn,Ak h.nn,d.is,h.cell (i:=5) rfl,?_⟩;unfold form2;generalize W:(λi (m:Iv)=>if(d.invs.take i).any (λg=>decide (g.name=m.name))=true then some ((m.name,-1,10):Flt)else if m.ty≠sE/\Ck d m.ty=false then some (m.name,-1,9)else none)=F2;refine Av d.invs.length (λk V1=>V=V1/\Aj F2 0 d.invs=Aj F2 k (d.invs.drop k)) ⟨rfl,rfl⟩ ?_;rintro k b V1 J O ⟨rfl,u⟩ r;refine⟨λz=>?_,λz=>?_⟩
 ·obtain⟨g,hm,Y,l,q,v,H,y⟩:=h.ok.invs.get z;rw[l]at u;refine⟨v,H,z,_,_,_,_,_,_,y,h.nn,h.nn,Ak h.nn,d.is,h.cell (i:=5) rfl,(c200 h.ok.invs Y).call ⟨_,rfl,λG=>DQ ?_ o,λG=>⟨λZ=>⟨h.ok.invs.succ z,r q _ _ ⟨rfl,?_⟩⟩,λZ=>(c199 h).call ⟨_,rfl,λN=>⟨h.ok.invs.succ z,r q _ _ ⟨rfl,?_⟩⟩,λN=>DQ ?_ o⟩⟩⟩⟩;·rw[u,A7 (b:=(g.name,-1,10)) (by grind)];rfl
  ·rw[u,Bm (by rw[<-W];exact(if_neg G).trans (if_neg λe=>e.1 Z))]
  ·rw[u,Bm (by grind)]
  ·rw[u,A7 (b:=(g.name,-1,9)) (by rw[<-W];exact(if_neg G).trans (if_pos ⟨Z,eq_false_of_ne_true N⟩))];rfl
 rw[(h.ok.invs.done z).1,Aj]at u;rw[u,xz];refine⟨h.nn,h.nn,Ak h.nn,d.qs,h.cell (i:=6) rfl,?_⟩;unfold form3;generalize Q:(λ(_:Nat) (m:Po)=>if m.ty≠sE/\Ck d m.ty=false then some ((sPot,-1,9):Flt)else none)=F3;refine Av d.pots.length (λk V1=>V=V1/\Aj F3 0 d.pots=Aj F3 k (d.pots.drop k)) ⟨rfl,rfl⟩ ?_;rintro k b V1 J O ⟨rfl,u⟩ r;refine⟨λz=>?_,λz=>?_⟩
 ·obtain⟨g,hm,Y,l,q,v,H,y⟩:=h.ok.pots.get z;rw[l]at u;refine⟨v,H,z,_,_,_,_,_,y,λZ=>⟨h.ok.pots.succ z,r q _ _ ⟨rfl,?_⟩⟩,λZ=>(c199 h).call ⟨_,rfl,λN=>⟨h.ok.pots.succ z,r q _ _ ⟨rfl,?_⟩⟩,λN=>DQ ?_ o⟩⟩;·rw[u,Bm (by rw[<-Q];exact if_neg λe=>e.1 Z)]
  ·rw[u,Bm (by grind)]
  ·rw[u,A7 (b:=(sPot,-1,9)) (by rw[<-Q];exact if_pos ⟨Z,eq_false_of_ne_true N⟩)];rfl
 rw[(h.ok.pots.done z).1,Aj]at u;rw[u,xz];refine⟨h.nn,h.nn,Ak h.nn,d.bs,h.cell (i:=7) rfl,?_⟩;unfold form4;generalize M:(λi (b:Bd)=>if(BI d b.proc).isNone=true then some ((b.proc,-1,9):Flt)else if(d.bounds.take i).any (λg=>decide (g.proc=b.proc))=true then some (b.proc,-1,10)else none)=F4;refine Av d.bounds.length (λk V1=>V=V1/\Aj F4 0 d.bounds=Aj F4 k (d.bounds.drop k)) ⟨rfl,rfl⟩ ?_;rintro k b V1 J O ⟨rfl,u⟩ r;refine⟨λz=>?_,λz=>?_⟩
 ·obtain⟨g,hm,Y,l,q,v,H,y⟩:=h.ok.bounds.get z;rw[l]at u;obtain⟨mt,L,R⟩:=h.procs;refine⟨v,H,z,_,_,_,_,_,y,h.nn,h.nn,_,L,Bl.str xy xW zero144 R ?_⟩;cases A:BI d g.proc with
  |none=>
   refine⟨_,⟨none,0,0⟩,_,⟨none,0,0⟩,⟨none,0,0⟩,_,rfl,λh=>absurd h (by simp),λ_=>DQ ?_ o⟩;rw[u,A7 (b:=(g.proc,-1,9)) (by grind)]
  |some p=>
   have X:¬(BI d g.proc).isNone=true:=by rw[A];simp
   refine⟨_,p.ps,_,p.ls,p.bs,_,rfl,λ_=>⟨h.nn,h.nn,Ak h.nn,d.bs,h.cell (i:=7) rfl,(c202 h.ok.bounds Y).call ⟨_,rfl,λG=>DQ ?_ o,λG=>⟨h.ok.bounds.succ z,r q _ _ ⟨rfl,?_⟩⟩⟩⟩,λh=>absurd rfl h⟩;·rw[u,A7 (b:=(g.proc,-1,10)) (by grind)]
   ·rw[u,Bm (by grind)]
 rw[(h.ok.bounds.done z).1,Aj]at u;rw[u];exact⟨none,rfl,o,rfl⟩
theorem impBodies(I:FZ)(h:Bs V c d)(Q:Eb d)(M:Hf d):FltC 152 [.pointer c] V (Ft d):=by
 refine x152 ?_;unfold Ft;refine⟨h.nn,h.nn,Ak h.nn,d.ps,h.cell (i:=3) rfl,?_⟩;generalize L:(λ(_:Nat) (p:Pr)=>if(Az d (Cm d p) p.result 0 p.body).2≠0 then some ((p.name,(Az d (Cm d p) p.result 0 p.body).1,(Az d (Cm d p) p.result 0 p.body).2):Flt)else none)=F1;refine Av d.procs.length (λk V1=>V.sub V1/\Aj F1 0 d.procs=Aj F1 k (d.procs.drop k)) ⟨Mem.sub.refl _,rfl⟩ ?_;rintro k b V1 J D ⟨v,l⟩ R;have y:=h.sub v;refine⟨λr=>?_,λr=>?_⟩
 ·obtain⟨g,hm,E,H,X,G,B,q⟩:=y.ok.procs.get r;rw[H]at l;have N:=y.ok.procsOk g hm;refine⟨G,B,r,_,_,_,_,_,q,Tri.mono (impInProc I y Q hm N) ?_⟩;rintro _ V2 ⟨m,rfl,u,Z⟩;refine⟨_,_,_,rfl,λb1 z=>?_⟩;obtain⟨Y,C⟩:=M.ps g hm;have O:=Mem.sub_new z (cell (.int .i64 0) 3);refine Tri.mono (impStmts z (y.sub u) Q Z rfl g.body _ g.bs 0 1 O As (N.sub u).body (N.sub u).stmts Y (by omega) (by omega)) ?_;rintro _ K ⟨rfl,S,W,-⟩;have o:=v.trans (u.trans (W.base O z));refine⟨_,_,rfl,λA=>⟨y.ok.procs.succ r,R X _ _ ⟨o,?_⟩⟩,λA=>DQ ?_ o⟩;·rw[l,Bm (by grind)]
  ·have:placeT (Az d (Cm d g) g.result 0 g.body)=(Az d (Cm d g) g.result 0 g.body).1:=if_neg A;rw[this,l,A7 (b:=(g.name,(Az d (Cm d g) g.result 0 g.body).1,(Az d (Cm d g) g.result 0 g.body).2)) (by grind)]
 rw[(y.ok.procs.done r).1,Aj]at l;rw[l];exact⟨none,rfl,v,rfl⟩
theorem EL{V1:Mem}{X:Option Flt}(h:FltAt V1 none X):X=none:=by
 cases X with
 |none=>rfl
 |some r=>obtain⟨b,t,k,_⟩:=h;cases k
theorem Hi{V1:Mem}{X:Option Flt}{p:Option Addr}(h:FltAt V1 p X)(k:¬p=none):∃r,X=some r:=by
 cases X with
 |none=>exact absurd h k
 |some r=>grind
theorem impExps(B:FZ)(h:Bs V c d)(I:Eb d)(C:Hf d)(M:DE d=none):FltC 153 [.pointer c] V (EJ d):=by
 refine x153 ?_;unfold EJ;refine⟨h.nn,h.nn,Ak h.nn,d.ms,h.cell (i:=4) rfl,?_⟩;unfold exp1;generalize D:(λ(_:Nat) (m:Ms)=>if Ba d (Bf d m.ty) m.x AD≠0 then some ((m.name,-1,Ba d (Bf d m.ty) m.x AD):Flt)else none)=F1;refine Av d.measures.length (λk V1=>V.sub V1/\Aj F1 0 d.measures=Aj F1 k (d.measures.drop k)) ⟨Mem.sub.refl _,rfl⟩ ?_;rintro k b V1 J E ⟨G,l⟩ L;have z:=h.sub G;refine⟨λo=>?_,λo=>?_⟩
 ·obtain⟨g,hm,K,N,R,Z,X,v⟩:=z.ok.measures.get o;rw[N]at l;refine⟨Z,X,o,_,_,_,_,_,_,_,v,Tri.mono (KA B z I) ?_⟩;rintro _ V2 ⟨m,rfl,y,Y⟩;refine⟨_,_,_,rfl,Tri.mono (c207 (e:=g.x) (z.sub y) I Y ((z.sub y).ok.measuresOk g hm).x (C.ms g hm)) ?_⟩;rintro _ S ⟨p,rfl,W,u⟩;have H:=G.trans (y.trans W);have Q:(if Ba d (Bf d g.ty) g.x AD≠0 then some ((g.name,-1,Ba d (Bf d g.ty) g.x AD):Flt)else none)=F1 k g:=by rw[<-D]
  rw[show Ac [105,110,116]=AD from rfl]at u;rw[Q]at u;refine⟨_,rfl,λO=>?_,λO=>?_⟩
  ·subst O;exact⟨z.ok.measures.succ o,L R _ _ ⟨H,by rw[l,Bm (EL u)]⟩⟩
  ·obtain⟨r,A⟩:=Hi u O;rw[l,A7 A];rw[A]at u;exact⟨p,rfl,H,u⟩
 rw[(z.ok.measures.done o).1,Aj]at l;rw[l,xz];refine⟨h.nn,h.nn,Ak h.nn,d.is,z.cell (i:=5) rfl,?_⟩;unfold exp2;generalize T:(λ(_:Nat) (m:Iv)=>if Ba d (Bf d m.ty) m.x AR≠0 then some ((m.name,-1,Ba d (Bf d m.ty) m.x AR):Flt)else none)=F2;refine Av d.invs.length (λk V1=>V.sub V1/\Aj F2 0 d.invs=Aj F2 k (d.invs.drop k)) ⟨G,rfl⟩ ?_;rintro k b V1 J E ⟨G,l⟩ L;have z:=h.sub G;refine⟨λo=>?_,λo=>?_⟩
 ·obtain⟨g,hm,K,N,R,Z,X,v⟩:=z.ok.invs.get o;rw[N]at l;refine⟨Z,X,o,_,_,_,_,_,_,v,Tri.mono (KA B z I) ?_⟩;rintro _ V2 ⟨m,rfl,y,Y⟩;refine⟨_,_,_,rfl,Tri.mono (c207 (e:=g.x) (z.sub y) I Y ((z.sub y).ok.invsOk g hm) (C.is g hm)) ?_⟩;rintro _ S ⟨p,rfl,W,u⟩;have H:=G.trans (y.trans W);have Q:(if Ba d (Bf d g.ty) g.x AR≠0 then some ((g.name,-1,Ba d (Bf d g.ty) g.x AR):Flt)else none)=F2 k g:=by rw[<-T]
  rw[show Ac [98,111,111,108]=AR from rfl]at u;rw[Q]at u;refine⟨_,rfl,λO=>?_,λO=>?_⟩
  ·subst O;exact⟨z.ok.invs.succ o,L R _ _ ⟨H,by rw[l,Bm (EL u)]⟩⟩
  ·obtain⟨r,A⟩:=Hi u O;rw[l,A7 A];rw[A]at u;exact⟨p,rfl,H,u⟩
 rw[(z.ok.invs.done o).1,Aj]at l;rw[l,xz];refine⟨h.nn,h.nn,Ak h.nn,d.qs,z.cell (i:=6) rfl,?_⟩;unfold exp3;generalize U:(λ(_:Nat) (m:Po)=>if Ba d (Bf d m.ty) m.x AD≠0 then some ((sPot,-1,Ba d (Bf d m.ty) m.x AD):Flt)else none)=F3;refine Av d.pots.length (λk V1=>V.sub V1/\Aj F3 0 d.pots=Aj F3 k (d.pots.drop k)) ⟨G,rfl⟩ ?_;rintro k b V1 J E ⟨G,l⟩ L;have z:=h.sub G;refine⟨λo=>?_,λo=>?_⟩
 ·obtain⟨g,hm,K,N,R,Z,X,v⟩:=z.ok.pots.get o;rw[N]at l;refine⟨Z,X,o,_,_,_,_,_,v,Tri.mono (KA B z I) ?_⟩;rintro _ V2 ⟨m,rfl,y,Y⟩;refine⟨_,_,_,rfl,Tri.mono (c207 (e:=g.x) (z.sub y) I Y ((z.sub y).ok.potsOk g hm) (C.qs g hm)) ?_⟩;rintro _ S ⟨p,rfl,W,u⟩;have H:=G.trans (y.trans W);have Q:(if Ba d (Bf d g.ty) g.x AD≠0 then some ((sPot,-1,Ba d (Bf d g.ty) g.x AD):Flt)else none)=F3 k g:=by rw[<-U]
  rw[show Ac [105,110,116]=AD from rfl,show Ac [112,111,116,101,110,116,105,97,108]=sPot from rfl]at u;rw[Q]at u;refine⟨_,rfl,λO=>?_,λO=>?_⟩
  ·subst O;exact⟨z.ok.pots.succ o,L R _ _ ⟨H,by rw[l,Bm (EL u)]⟩⟩
  ·obtain⟨r,A⟩:=Hi u O;rw[l,A7 A];rw[A]at u;exact⟨p,rfl,H,u⟩
 rw[(z.ok.pots.done o).1,Aj]at l;rw[l,xz];refine⟨h.nn,h.nn,Ak h.nn,d.bs,z.cell (i:=7) rfl,?_⟩;have hpr:=Mb M;unfold exp4;generalize hf4:(λ(_:Nat) (m:Bd)=>if Ba d (DP d ((BI d m.proc).getD Gy)) m.x AD≠0 then some ((m.proc,-1,Ba d (DP d ((BI d m.proc).getD Gy)) m.x AD):Flt)else none)=F4;refine Av d.bounds.length (λk V1=>V.sub V1/\Aj F4 0 d.bounds=Aj F4 k (d.bounds.drop k)) ⟨G,rfl⟩ ?_;rintro k b V1 J E ⟨G,l⟩ L;have z:=h.sub G;refine⟨λo=>?_,λo=>?_⟩
 ·obtain⟨g,hm,K,N,R,Z,X,v⟩:=z.ok.bounds.get o;rw[N]at l;obtain⟨q,hq⟩:=hpr g hm;obtain⟨mt,q1,q2⟩:=z.procs;refine⟨Z,X,o,_,_,_,_,_,v,h.nn,h.nn,_,q1,Bl.str1 xy xW zero144 q2 ?_⟩;rw[hq];refine⟨_,q.ps,_,q.ls,q.bs,rfl,Tri.mono (impInBound B z I (Kz hq) (z.ok.procsOk q (Kz hq))) ?_⟩;rintro _ V2 ⟨m,rfl,y,Y⟩;refine⟨_,_,_,rfl,Tri.mono (c207 (e:=g.x) (z.sub y) I Y ((z.sub y).ok.boundsOk g hm) (C.bs g hm)) ?_⟩;rintro _ S ⟨p,rfl,W,u⟩;have H:=G.trans (y.trans W);have Q:(if Ba d (DP d q) g.x AD≠0 then some ((g.proc,-1,Ba d (DP d q) g.x AD):Flt)else none)=F4 k g:=by grind
  rw[show Ac [105,110,116]=AD from rfl]at u;rw[Q]at u;refine⟨_,rfl,λO=>?_,λO=>?_⟩
  ·subst O;exact⟨z.ok.bounds.succ o,L R _ _ ⟨H,by rw[l,Bm (EL u)]⟩⟩
  ·obtain⟨r,A⟩:=Hi u O;rw[l,A7 A];rw[A]at u;exact⟨p,rfl,H,u⟩
 rw[(z.ok.bounds.done o).1,Aj]at l;rw[l];exact⟨none,rfl,G,rfl⟩
end
theorem GenK.makeF1{P:Program}{V:Mem}{f:FuncId}{x:Operand}{ty:Nat}{vals:Operand->Value}{v:Value}(k:vals x=v){q:Value->Mem->Prop}(h:q (.func (.func f) #[v] #[]) V):GenK P (.makeFunc (.func f) #[x] #[]) ty vals V q:=by
 intro w hw;refine⟨_,w,V,?_,Aq.refl hw,h⟩;unfold execOp Instr.makeFunc;simp_all
section
variable{V:Mem}{d:Ds}{c:Option Addr}
theorem impFirst(O:FZ)(h:Bs V c d)(A:Eb d)(W:Hf d):FltC 105 [.pointer c] V (Dc d):=by
 refine x105 ?_;have M:=λV1 (H:V.sub V1)=>impTypes (h.sub H);have F2:=λV1 (H:V.sub V1)=>impHeads (h.sub H) W.small;have L:=λV1 (H:V.sub V1)=>impForm (h.sub H);have R:=λV1 (H:V.sub V1)=>impBodies O (h.sub H) A W;have B:=λV1 (H:V.sub V1) (G:DE d=none)=>impExps O (h.sub H) A W G;refine GenK.makeF1 (v:=.pointer c) rfl ⟨.func (.func 149) #[.pointer c] #[],rfl,rfl,GenK.makeF1 (v:=.pointer c) rfl ⟨.func (.func 150) #[.pointer c] #[],rfl,rfl,GenK.makeF1 (v:=.pointer c) rfl ⟨.func (.func 151) #[.pointer c] #[],rfl,rfl,GenK.makeF1 (v:=.pointer c) rfl ⟨.func (.func 152) #[.pointer c] #[],rfl,rfl,GenK.makeF1 (v:=.pointer c) rfl ⟨.func (.func 153) #[.pointer c] #[],rfl,rfl,λb C=>?_⟩⟩⟩⟩⟩;have Q:=Mem.sub_new C (.cells #[.func (.func 149) #[.pointer c] #[],.func (.func 150) #[.pointer c] #[],.func (.func 151) #[.pointer c] #[],.func (.func 152) #[.pointer c] #[],.func (.func 153) #[.pointer c] #[]] 178 (0,0));refine Av 5 (λi V1=>V.sub V1/\V1 b=some (.cells #[.func (.func 149) #[.pointer c] #[],.func (.func 150) #[.pointer c] #[],.func (.func 151) #[.pointer c] #[],.func (.func 152) #[.pointer c] #[],.func (.func 153) #[.pointer c] #[]] 178 (0,0))/\
  ((i=0/\Dc d=(Gw d).or ((FW d).or ((DE d).or ((Ft d).or (EJ d)))))∨(i=1/\Dc d=(FW d).or ((DE d).or ((Ft d).or (EJ d))))∨(i=2/\Dc d=(DE d).or ((Ft d).or (EJ d)))∨(i=3/\DE d=none/\Dc d=(Ft d).or (EJ d))∨(i=4/\DE d=none/\Dc d=EJ d)∨(i=5/\Dc d=none))) ⟨Q,Mem.set_same _ _ _,.inl ⟨rfl,rfl⟩⟩ ?_
 rintro i K V1 J S ⟨q,u,N⟩ Z;have o:∀{V2:Mem}{X Y:Option Flt}{p:Option Addr},V.sub V2->FltAt V2 p X->¬(p=none)->Dc d=X.or Y->(∃I,xI (.pointer p)=.returned (.pointer I)/\V.sub V2/\FltAt V2 I (Dc d)):=λ{V2 X Y p} H G l y=>by
  obtain⟨r,rfl⟩:=Hi G l;simp_all
 refine⟨λD=>?_,λE=>?_⟩
 ·rcases N with⟨rfl,y⟩|⟨rfl,y⟩|⟨rfl,y⟩|⟨rfl,G,y⟩|⟨rfl,G,y⟩|⟨rfl,y⟩
  ·refine⟨by simp[Aa],by omega,by omega,.func (.func 149) #[.pointer c] #[],rfl,At u 0 1 (by simp),_,_,_,rfl,Tryz.call149,Tri.mono (M V1 q) ?_⟩;rintro _ V2 ⟨p,rfl,k,z⟩;refine⟨_,rfl,λl=>⟨⟨by omega,by omega⟩,Z (by omega) _ _ ⟨q.trans k,k _ _ u,?_⟩⟩,λl=>o (q.trans k) z l y⟩;subst l;exact .inr (.inl ⟨rfl,by rw[y,EL z,xz]⟩)
  ·refine⟨by simp[Aa],by omega,by omega,.func (.func 150) #[.pointer c] #[],rfl,At u 1 1 (by simp),_,_,_,rfl,Tryz.call150,Tri.mono (F2 V1 q) ?_⟩;rintro _ V2 ⟨p,rfl,k,z⟩;refine⟨_,rfl,λl=>⟨⟨by omega,by omega⟩,Z (by omega) _ _ ⟨q.trans k,k _ _ u,?_⟩⟩,λl=>o (q.trans k) z l y⟩;subst l;exact .inr (.inr (.inl ⟨rfl,by rw[y,EL z,xz]⟩))
  ·refine⟨by simp[Aa],by omega,by omega,.func (.func 151) #[.pointer c] #[],rfl,At u 2 1 (by simp),_,_,_,rfl,Tryz.call151,Tri.mono (L V1 q) ?_⟩;rintro _ V2 ⟨p,rfl,k,z⟩;refine⟨_,rfl,λl=>⟨⟨by omega,by omega⟩,Z (by omega) _ _ ⟨q.trans k,k _ _ u,?_⟩⟩,λl=>o (q.trans k) z l y⟩;subst l;exact .inr (.inr (.inr (.inl ⟨rfl,EL z,by rw[y,EL z,xz]⟩)))
  ·refine⟨by simp[Aa],by omega,by omega,.func (.func 152) #[.pointer c] #[],rfl,At u 3 1 (by simp),_,_,_,rfl,Tryz.call152,Tri.mono (R V1 q) ?_⟩;rintro _ V2 ⟨p,rfl,k,z⟩;refine⟨_,rfl,λl=>⟨⟨by omega,by omega⟩,Z (by omega) _ _ ⟨q.trans k,k _ _ u,?_⟩⟩,λl=>o (q.trans k) z l y⟩;subst l;exact .inr (.inr (.inr (.inr (.inl ⟨rfl,G,by rw[y,EL z,xz]⟩))))
  ·refine⟨by simp[Aa],by omega,by omega,.func (.func 153) #[.pointer c] #[],rfl,At u 4 1 (by simp),_,_,_,rfl,Tryz.call153,Tri.mono (B V1 q G) ?_⟩;rintro _ V2 ⟨p,rfl,k,z⟩;refine⟨_,rfl,λl=>⟨⟨by omega,by omega⟩,Z (by omega) _ _ ⟨q.trans k,k _ _ u,?_⟩⟩,λl=>o (Y:=none) (q.trans k) z l (by simp_all)⟩;subst l;exact .inr (.inr (.inr (.inr (.inr ⟨rfl,by rw[y,EL z]⟩))))
  ·omega
 ·rcases N with⟨rfl,y⟩|⟨rfl,y⟩|⟨rfl,y⟩|⟨rfl,G,y⟩|⟨rfl,G,y⟩|⟨rfl,y⟩;·omega
  ·omega
  ·omega
  ·omega
  ·omega
  ·rw[y];exact⟨none,rfl,q,rfl⟩
theorem N5[Tab V](q:FZ)(o:NewC)(y:Ds.Ok V d):PP 73 [d.v] V (if BX d=true then f3 (Dc d)else .tuple #[.string sE,.int .i64 0,.int .i64 1]):=by
 refine AP.mk (NG ?_);refine(c103 y).call ⟨_,rfl,λh=>?_,λh=>?_⟩
 ·rw[if_pos h];refine Tri.mono (o V d y) ?_;rintro _ V1 ⟨c,rfl,i,H⟩;refine⟨c,rfl,Tri.mono (impFirst q H (N1 h) (vparts h)) ?_⟩;rintro _ V2 ⟨p,rfl,l,u⟩;refine⟨p,rfl,λk=>?_,λk=>?_⟩
  ·subst k;rw[EL u];exact⟨rfl,i.trans l⟩
  ·obtain⟨r,J⟩:=Hi u k;rw[J]at u⊢;obtain⟨b,t,rfl,z⟩:=u;exact⟨k,k,_,At z 0 1 (by simp),k,k,_,At z 1 1 (by simp),k,k,_,At z 2 1 (by simp),E7 (p:=some ⟨b,0,none⟩) (At z 2 1 (by simp)),k,k,E7 (p:=some ⟨b,0,none⟩) (At z 1 1 (by simp)),k,k,E7 (p:=some ⟨b,0,none⟩) (At z 2 1 (by simp)),k,k,rfl,i.trans l⟩
 ·rw[if_neg h];exact⟨rfl,Mem.sub.refl _⟩
end
end Go.Proofs
namespace Go.Sx
open Go
open Classical
structure KeyOf (P:Program)(kt:TypeId){α:Type}(enc:α->Value):Prop where
 inj:∀a b,enc a=enc b->a=b
 find:∀(a:α)(es:List MapEntry)(w:World),(∀e∈es,∃b,e.key=enc b)->(yj kt (enc a) es).run P w=.ok ((es.findIdx? λe=>decide (e.key=enc a)).bind λj=>(es[j]?).map λe=>(j,e.val)) w
 check:∀(b:Bool)(a:α)(w:World),(yi b 10000 kt (enc a)).run P w=.ok () w
 stays:∀(a:α)(w:World),(xx (enc a) (enc a)).run P w=.ok (enc a) w
noncomputable def Ec(es:List MapEntry)(k:Value):Option Value:=(es.find? λe=>decide (e.key=k)).map (·.val)
structure BJ {α:Type}(enc:α->Value)(V:Mem)(b:Nat)(m:α->Option Value):Prop where
 at_:∃es clock,V b=some (.map es clock)/\(∀e∈es.toList,∃a,e.key=enc a)/\es.toList.Pairwise (λe f=>e.key≠f.key)/\∀a,Ec es.toList (enc a)=m a
section
variable{α:Type}{enc:α->Value}{P:Program}{t kt et:TypeId}{V V':Mem}{b c:Nat}{m m':α->Option Value}
theorem BJ.sub(h:BJ enc V b m)(k:V.sub V'):BJ enc V' b m:=by
 obtain⟨es,c,u,z⟩:=h.at_;exact⟨es,c,k _ _ u,z⟩
theorem BJ.set{o:Obj}(h:BJ enc V b m)(k:b≠c):BJ enc (V.set c o) b m:=by
 obtain⟨es,c,u,z⟩:=h.at_;exact⟨es,c,by rw[Mem.set_ne k];exact u,z⟩
theorem BJ.made(V:Mem)(b:Nat):BJ enc (V.set b (.map #[] 0)) b λ_=>none:=
 ⟨#[],0,Mem.set_same _ _ _,by simp,by simp,by simp[Ec]⟩
theorem BJ.congr(h:BJ enc V b m)(e:∀k,m k=m' k):BJ enc V b m':=by
 obtain⟨es,c,u,z,y,i⟩:=h.at_;exact⟨es,c,u,z,y,λk=>(i k).trans (e k)⟩
theorem KC(k:Value):∀es:List MapEntry,Ec es k=(es.findIdx? λe=>decide (e.key=k)).bind λj=>(es[j]?).map (·.val)
 |[]=>rfl
 |e::es=>by
  have h:=KC k es;unfold Ec at h⊢;simp only[xZ,ym];by_cases u:e.key=k;·simp[u]
  ·simp only[u,decide_false,zN,if_false,h];cases z:yk (λe=>decide (e.key=k)) es<;>simp
theorem Bl.key2(K:KeyOf P kt enc)(h:P.underlying t=some (.map kt et)){z:Value}(r:∀w,(zeroValue et).run P w=.ok z w)(hm:BJ enc V b m){k:α}{q:Value->Prop}(u:q (.tuple #[(m k).getD z,.bool (m k).isSome])):Bl P t (.map (some b)) (enc k) true V q:=by
 intro w hw;obtain⟨es,c,y,i,-,l⟩:=hm.at_;refine⟨_,?_,u⟩;unfold Instr.lookup;simp only[zK,run_underlying h,zL,yh (hw _ _ y),zM,K.check,K.find k _ w i];rw[<-l k,KC];cases o:yk (λe=>decide (e.key=enc k)) es.toList with
 |none=>simp_all
 |some j=>
  grind[yg,zM,yu,yT]
theorem Bl.key1(K:KeyOf P kt enc)(h:P.underlying t=some (.map kt et)){z:Value}(r:∀w,(zeroValue et).run P w=.ok z w)(hm:BJ enc V b m){k:α}{q:Value->Prop}(u:q ((m k).getD z)):Bl P t (.map (some b)) (enc k) false V q:=by
 intro w hw;obtain⟨es,c,y,i,-,l⟩:=hm.at_;refine⟨_,?_,u⟩;unfold Instr.lookup;simp only[zK,run_underlying h,zL,yh (hw _ _ y),zM,K.check,K.find k _ w i];rw[<-l k,KC];cases o:yk (λe=>decide (e.key=enc k)) es.toList with
 |none=>simp_all
 |some j=>
  grind[yg,zM,yu,yT]
theorem lookV_push{es:List MapEntry}{k val:Value}{c:Nat}(h:es.findIdx? (λe=>decide (e.key=k))=none)(x:Value):Ec (es++[{key:=k,val:=val,born:=c}]) x=if x=k then some val else Ec es x:=by
 grind[Ec]
theorem Me(k val:Value):∀(es:List MapEntry)(i:Nat) (h:es.findIdx? (λe=>decide (e.key=k))=some i) (x:Value),Ec (es.modify i λe=>{e with key:=k,val:=val}) x=if x=k then some val else Ec es x
 |[],_,h,_=>by simp at h
 |e::es,i,h,x=>by
  rw[ym]at h;by_cases u:e.key=k;·grind[Ec]
  ·simp only[u,decide_false,zN,if_false,zi]at h;obtain⟨j,z,rfl⟩:=h;have y:=Me k val es j z x;grind[Ec]
theorem Mf(k val:Value):∀(es:List MapEntry)(i:Nat),es.findIdx? (λe=>decide (e.key=k))=some i->(es.modify i λe=>{e with key:=k,val:=val}).map (·.key)=es.map (·.key)
 |[],_,h=>by simp at h
 |e::es,i,h=>by
  rw[ym]at h;by_cases u:e.key=k;·grind
  ·simp only[u,decide_false,zN,if_false,zi]at h;obtain⟨j,z,rfl⟩:=h;simp[Mf k val es j z]
theorem pair_keys{es:List MapEntry}:es.Pairwise (λe f=>e.key≠f.key)↔(es.map (·.key)).Pairwise (·≠·):=by grind
theorem BQ.key(K:KeyOf P kt enc)(J:P.underlying t=some (.map kt et))(hm:BJ enc V b m){k:α}{val:Value}{q:Mem->Prop}(v:∀o,BJ enc (V.set b o) b (λx=>if x=k then some val else m x)->q (V.set b o)):BQ P t (.map (some b)) (enc k) val V q:=by
 intro w hw;obtain⟨es,c,z,G,W,N⟩:=hm.at_;have u:(yp t (.map (some b)) (enc k) val).run P w=
   (match es.toList.findIdx? (λe=>decide (e.key=enc k))with
   |some i=>(setObj b (.map (es.modify i λe=>{e with key:=enc k,val:=val}) c)).run P w
   |none=>(setObj b (.map (es.push {key:=enc k,val:=val,born:=c}) (c+1))).run P w):=by
  unfold yp;simp only[zK,run_underlying J,zL,yh (hw _ _ z),K.check,K.find k _ w G];cases y:yk (λe=>decide (e.key=enc k)) es.toList with
  |none=>rfl
  |some j=>
   obtain⟨l,Z,_⟩:=yg.1 y;have Y:j<es.size:=by simpa using l
   have r:(es[j]?).map (·.key)=some (enc k):=by
    simp_all
   simp only[yu l,Option.bind_some,Option.map_some,zK,r,xY,K.stays,zL]
 have p:∀a,(if enc a=enc k then some val else Ec es.toList (enc a))=if a=k then some val else m a:=λa=>by
  by_cases e:a=k;·simp_all
  ·rw[if_neg e,if_neg (λh=>e (K.inj _ _ h)),N]
 cases y:yk (λe=>decide (e.key=enc k)) es.toList with
 |none=>
  rw[y]at u;refine⟨_,V.set b (.map (es.push {key:=enc k,val:=val,born:=c}) (c+1)),u.trans (yf _ (hw _ _ z)),Aq.put hw z,v _ ⟨_,_,Mem.set_same _ _ _,?_,?_,λx=>?_⟩⟩;·grind
  ·grind
  ·rw[Array.toList_push,lookV_push y,p]
 |some j=>
  rw[y]at u;refine⟨_,V.set b (.map (es.modify j λe=>{e with key:=enc k,val:=val}) c),u.trans (yf _ (hw _ _ z)),Aq.put hw z,v _ ⟨_,_,Mem.set_same _ _ _,?_,?_,λx=>?_⟩⟩
  ·intro e H;rw[ye]at H;obtain⟨i,Q,rfl⟩:=List.mem_iff_getElem.1 H;rw[List.getElem_modify];split;·grind
   simp_all
  ·simp_all[ye,pair_keys,Mf]
  simp_all[ye,Me]
end
end Go.Sx
namespace Go.Proofs
open Go Go.Sx
attribute [local irreducible] Go.Sx.Tri
def Am(n:Int):List Value:=[.int .i64 n]
def EM(n:Int):Prop:=-9223372036854775808<=n/\n<=9223372036854775807
structure Nd where
 ty:Int
 sl:Sl
 f:List Int
def Nd.row(n:Nd):List Value:=[.int .i64 n.ty,n.sl.v]
def Nd.v(n:Nd):Value:=.agg n.row.toArray
structure Nd.Ok (V:Mem)(n:Nd):Prop where
 rows:Ad V n.sl 1 (n.f.map Am)
 tyIn:EM n.ty
 vals:∀x∈n.f,EM x
structure Mm where
 gs:Sl
 globals:List Int
 ns:Sl
 nodes:List Nd
def Mm.row(m:Mm):List Value:=[m.gs.v,m.ns.v]
def Mm.v(m:Mm):Value:=.agg m.row.toArray
structure Mm.Ok (V:Mem)(m:Mm):Prop where
 globals:Ad V m.gs 1 (m.globals.map Am)
 gIn:∀x∈m.globals,EM x
 nodes:Ad V m.ns 2 (m.nodes.map Nd.row)
 nodesOk:∀n∈m.nodes,Nd.Ok V n
theorem Nd.Ok.sub{V V':Mem}{n:Nd}(h:Nd.Ok V n)(k:V.sub V'):Nd.Ok V' n:=⟨h.rows.sub k,h.tyIn,h.vals⟩
theorem Mm.Ok.sub{V V':Mem}{m:Mm}(h:Mm.Ok V m)(k:V.sub V'):Mm.Ok V' m:=⟨h.globals.sub k,h.gIn,h.nodes.sub k,λn u=>(h.nodesOk n u).sub k⟩
def allI{α:Type}(p:Nat->α->Bool)(xs:List α):Bool:=xs.zipIdx.all λx=>p x.2 x.1
def AllI{α:Type}(p:Nat->α->Bool)(xs:List α)(i:Nat):Prop:=∀j x,j<i->xs[j]?=some x->p j x=true
theorem AllI.zero{α:Type}{p:Nat->α->Bool}{xs:List α}:AllI p xs 0:=λ_ _ h=>absurd h (Nat.not_lt_zero _)
theorem AllI.succ{α:Type}{p:Nat->α->Bool}{xs:List α}{i:Nat}{x:α}(h:AllI p xs i)(l:xs[i]?=some x)(r:p i x=true):AllI p xs (i+1):=λj y k u=>by
 rcases Nat.lt_succ_iff_lt_or_eq.1 k with z|rfl;·exact h j y z u
 simp_all
theorem Fu{α:Type}{p:Nat->α->Bool}{xs:List α}:allI p xs=true↔∀j x,xs[j]?=some x->p j x=true:=by
 unfold allI;rw[List.all_eq_true];constructor;·simp_all[List.mem_zipIdx_iff_getElem?]
 grind
theorem AllI.all{α:Type}{p:Nat->α->Bool}{xs:List α}{i:Nat}(h:AllI p xs i)(hi:xs.length<=i):allI p xs=true:=
 Fu.2 λj x k=>h j x (by grind) k
theorem KD{α:Type}{p:Nat->α->Bool}{xs:List α}{j:Nat}{x:α}(h:xs[j]?=some x)(k:¬p j x=true):allI p xs=false:=by
 grind[allI,absurd,Fu]
def BZ(d:Ds)(s:KB):Int:=CY (λt=>decide (t.name=s)) d.types
def Ei(d:Ds)(l:List Fld):Bool:=l.all λf=>Cd d f.ty
def hasT(d:Ds):Bool:=BX d&&Ei d d.globals&&allI (λi t=>decide (BZ d t.name=(i:Int))&&Ei d t.fields) d.types
def Bg(d:Ds)(t:Int):List Fld:=((d.types[t.toNat]?).map (·.fields)).getD []
def tyAt(l:List Fld)(i:Nat):KB:=((l[i]?).map (·.ty)).getD sE
def Ce(d:Ds)(m:Mm)(h:KB)(v:Int):Bool:=
 if h=AD then decide (-1099511627776<=v/\v<=1099511627776)else if h=AR then decide (v=0∨v=1)
 else decide (v=0∨(1<=v/\v<=(m.nodes.length:Int)/\(m.nodes[(v-1).toNat]?).map (·.ty)=some (BZ d h)))
def Bb(d:Ds)(m:Mm)(l:List Fld)(vs:List Int):Bool:=decide (l.length=vs.length)&&allI (λi v=>Ce d m (tyAt l i) v) vs
def DR(d:Ds)(n:Nd):Bool:=decide (0<=n.ty/\n.ty<(d.types.length:Int))
def AB(d:Ds)(m:Mm):Bool:=hasT d&&decide (m.nodes.length<=4096)&&m.nodes.all (DR d)&&Bb d m d.globals m.globals&&m.nodes.all λn=>Bb d m (Bg d n.ty) n.f
theorem row_take{V:Mem}{a:Addr}{n k:Nat}{vs:List Value}(h:V.row a n=some vs)(u:k<=n):V.row a k=some (vs.take k):=by
 grind[Mem.row]
theorem Mg{V:Mem}{p:Option Addr}{off n k:Nat}{vs:List Value}(h:V.rowp p off n=some vs)(u:k<=n):V.rowp (Aa (Aa p off) 0) 0 k=some (vs.take k):=by
 cases p with
 |none=>cases h
 |some a=>
  have z:((a.add off).add 0).add 0=a.add off:=by rfl
  show V.row (((a.add off).add 0).add 0) k=_;rw[z];exact row_take h u
section
variable{V:Mem}{d:Ds}{m:Mm}
theorem KE(d:Ds)(s:KB):(BZ d s<0/\Ck d s=false)∨(0<=BZ d s/\Ck d s=true):=by
 grind[BZ,Ck,Dn,Ty]
theorem Fv{t:Int}{x:Ty}{k:Nat}(h:d.types[k]?=some x)(u:t=(k:Int)):Bg d t=x.fields:=by
 grind[Bg]
end
end Go.Proofs
namespace Go.Proofs
open Go Go.Sx
structure BR (d:Ds)(m:Mm):Prop where
 valid:BX d=true
 chk:Dc d=none
 mem:AB d m=true
section
variable{d:Ds}{m:Mm}
theorem DS(h:AB d m=true):hasT d=true/\m.nodes.length<=4096/\(∀n∈m.nodes,DR d n=true)/\Bb d m d.globals m.globals=true/\∀n∈m.nodes,Bb d m (Bg d n.ty) n.f=true:=by
 grind[AB]
theorem values_at{l:List Fld}{vs:List Int}(h:Bb d m l vs=true){i:Nat}{f:Fld}(hi:l[i]?=some f):∃v,vs[i]?=some v/\Ce d m f.ty v=true:=by
 unfold Bb at h;rw[zC,decide_eq_true_eq,Fu]at h;have k:=(yv.1 hi).1;have u:vs[i]?=some (vs[i]'(by omega)):=yu _;grind[tyAt]
end
end Go.Proofs
namespace Go.Proofs
open Go Go.Sx
structure St where
 g:List Int
 ns:List (Int×List Int)
 tk:Nat
 cm:Nat
 lg:List (Int×Int×Int)
def Ah:Sl:=⟨none,0,0⟩
def St.mm(s:St):Mm:=⟨Ah,s.g,Ah,s.ns.map λn=>⟨n.1,Ah,n.2⟩⟩
def _root_.Go.Sx.Pr.vars(p:Pr):List Fld:=p.params++p.locals
end Go.Proofs
namespace Go.Proofs
open Go Go.Sx
section
variable{d:Ds}{F:Nat}
abbrev Gm:=List Int×List (Int×List Int)
theorem HY{s:St}{i:Nat}:s.mm.nodes[i]?=(s.ns[i]?).map λn=>⟨n.1,Ah,n.2⟩:=List.getElem?_map ..
theorem mm_len{s:St}:s.mm.nodes.length=s.ns.length:=List.length_map ..
theorem right_mono{m m':Mm}(r:m.nodes.length<=m'.nodes.length)(u:∀(i:Nat) x,m.nodes[i]?=some x->∃y,m'.nodes[i]?=some y/\y.ty=x.ty){t:KB}{v:Int}(h:Ce d m t v=true):Ce d m' t v=true:=by
 unfold Ce at h⊢;split;·simp_all
 rename_i z;rw[if_neg z]at h;split;·simp_all
 rename_i l;rw[if_neg l,decide_eq_true_eq]at h;refine decide_eq_true ?_;rcases h with h|⟨p1,p2,p3⟩;·exact .inl h
 ·refine .inr ⟨p1,by omega,?_⟩;cases k:m.nodes[(v-1).toNat]? with
  |none=>simp_all
  |some x=>
   rw[k]at p3;obtain⟨y,q,o⟩:=u _ _ k;simp_all
theorem Hj{m:Mm}{l:List Fld}{vs:List Int}:Bb d m l vs=true↔l.length=vs.length/\∀(j:Nat) f v,l[j]?=some f->vs[j]?=some v->Ce d m f.ty v=true:=by
 unfold Bb;rw[zC,decide_eq_true_eq,Fu];grind[tyAt]
theorem values_mono{m m':Mm}(k:∀{t v},Ce d m t v=true->Ce d m' t v=true){l:List Fld}{vs:List Int}(h:Bb d m l vs=true):Bb d m' l vs=true:=by
 grind[Hj]
theorem validM_mk{m:Mm}(h:hasT d=true)(k:m.nodes.length<=4096)(u:∀n∈m.nodes,DR d n=true)(z:Bb d m d.globals m.globals=true)(y:∀n∈m.nodes,Bb d m (Bg d n.ty) n.f=true):AB d m=true:=by
 grind[AB]
end
end Go.Proofs
namespace Go.Sx
open Go
open Classical
section
variable{P:Program}{V0 V1 V:Mem}{e:TypeId}{sz:Nat}{s:Sl}{vs:List Value}
def Ct(s:Sl)(c:Nat):Prop:=s.c≠0/\s.p=some ⟨c,0,none⟩
noncomputable def Mem.but(V:Mem)(s:Sl):Mem:=λc=>if Ct s c then none else V c
theorem Mem.but_sub(V:Mem)(s:Sl):(V.but s).sub V:=λc o h=>by
 grind[Mem.but]
theorem Mem.but_at{c:Nat}{o:Obj}(h:V c=some o)(k:¬Ct s c):V.but s c=some o:=by
 grind[Mem.but]
theorem Own.cases0(h:Own V0 V e sz s vs):(s.n=0/\s.c=0/\vs=[])∨(s.c≠0/\∃g k,s.p=some ⟨g,0,none⟩/\V0 g=none/\V g=some (.cells k e (0,0))/\s.n<=s.c/\s.c<=maxLen/\k.size=s.c*sz/\k.toList.take (s.n*sz)=vs):=by
 rcases h.at_ with u|⟨g,k,u,z,y,i,l⟩;·exact .inl u
 ·by_cases r:s.c=0;·simp_all
  simp_all
theorem Own.but(h:Own V0 V e sz s vs):Own (V.but s) V e sz s vs:=by
 refine⟨Mem.but_sub V s,h.len,?_⟩;rcases h.cases0 with k|⟨u,g,cur,k,y,z⟩;·exact .inl k
 ·refine .inr ⟨g,cur,k,?_,z⟩;unfold Mem.but;rw[if_pos ⟨u,k⟩]
theorem Own.apart(h:Own V0 V e sz s vs){c:Nat}(y:∀k,V c≠some (.cells k e (0,0))):¬Ct s c:=by
 rintro⟨z,i⟩;rcases h.cases0 with⟨-,u,-⟩|⟨-,g,k,u,l,r,-⟩;·exact z u
 simp_all
theorem Own.apart0(h:Own V0 V e sz s vs){c:Nat}{o:Obj}(z:V0 c=some o):¬Ct s c:=by
 rintro⟨u,y⟩;rcases h.cases0 with⟨-,k,-⟩|⟨-,g,cur,k,i,-⟩;·exact u k
 simp_all
theorem Own.apartN(h:Own V0 V e sz s vs){c:Nat}(k:V c=none):¬Ct s c:=h.apart λu=>by rw[k];nofun
theorem Own.sub_but(h:Own V0 V e sz s vs):V0.sub (V.but s):=λ_ _ k=>Mem.but_at (h.sub _ _ k) (h.apart0 k)
theorem Own.narrow(h:Own V1 V e sz s vs)(u:V0.sub V1):Own V0 V e sz s vs:=⟨u.trans h.sub,h.len,by
 rcases h.at_ with k|⟨g,cur,k,z,y⟩;·exact .inl k
 ·refine .inr ⟨g,cur,k,?_,y⟩;cases i:V0 g with
  |none=>rfl
  |some o=>rw[u _ _ i]at z;cases z⟩
theorem Own.put(h:Own V0 V e sz s vs){c:Nat}(u:¬Ct s c)(z:V0 c=none)(o:Obj):Own V0 (V.set c o) e sz s vs:=⟨h.sub.set z o,h.len,by
 rcases h.cases0 with k|⟨y,g,cur,k,i,l,r⟩;·exact .inl k
 ·refine .inr ⟨g,cur,k,i,?_,r⟩;rw[Mem.set_ne λe=>u ⟨y,by simp_all⟩];exact l⟩
theorem Mh(k:Int):∀(es:List MapEntry)(i:Nat),(∀e∈es,∃n,e.key=.int .i64 n)->
  yn (.int .i64) (.int .i64 k) es i=some ((es.findIdx? λe=>decide (e.key=.int .i64 k)).bind λj=>(es[j]?).map λe=>(i+j,e.val))
 |[],_,_=>rfl
 |e::es,i,h=>by
  obtain⟨s,y⟩:=h e (by simp);have l:=Mh k es (i+1) λx r=>h x (by simp[r]);unfold yn;simp only[y,Instr.sameNow,ym];by_cases z:k=s;·grind
  ·have u:¬s=k:=λe=>z e.symm;simp only[l];have q:(k==s)=false:=by simpa using z
   cases o:yk (λe=>decide (e.key=xw .i64 k)) es with
   |none=>simp[u,q]
   |some j=>grind
theorem keyInt{kt:TypeId}(k:P.underlying kt=some (.int .i64)):KeyOf P kt (xw .i64) where
 inj:=λa b h=>by cases h;rfl
 find:=λa es w h=>by
  simp_all[yj,zK,run_underlying,zL,Mh,Nat.zero_add]
 check:=λb a w=>by
  unfold yi;simp_all[zK,run_underlying,zL]
 stays:=λa w=>by
  have h:xv 10000 (.int .i64 a) (.int .i64 a)=true:=by
   rw[show(10000:Nat)=9999+1 from rfl];simp[xv]
  unfold xx;rw[if_pos h];rfl
end
end Go.Sx
namespace Go.Proofs
open Go Go.Sx
attribute [local irreducible] Go.Sx.Tri
theorem AQ.at2{V:Mem}{b:Nat}{c:Array Value}{t off:Nat}{vs:List Value}{q:Mem->Prop}(h:V b=some (.cells c t (0,0)))(k:off+vs.length<=c.size)
  (u:q (V.set b (.cells (c.toList.take off++vs++c.toList.drop (off+vs.length)).toArray t (0,0)))):AQ (Aa (sa b) off) 0 vs V q:=by
 have e:Aa (sa b) off=some ⟨b,off,none⟩:=by
  grind[Aa,Addr.add]
 rw[e];exact⟨⟨b,off,none⟩,c,t,rfl,h,rfl,by simpa using k,by simpa using u⟩
theorem Mi{α:Type}:∀(l:List α)(i:Nat)(v:α),i<l.length->l.take i++[v]++l.drop (i+1)=l.set i v
 |[],i,v,h=>by simp at h
 |a::l,0,v,_=>by simp
 |a::l,i+1,v,h=>by
  have:=Mi l i v (by simpa using h);simp_all
section
variable{V0 V V':Mem}{e:TypeId}{sz:Nat}{s:Sl}{vs:List Value}
theorem Own.store(h:Sx.Own V0 V e sz s vs){i:Nat}(hi:i<vs.length){v:Value}{q:Mem->Prop}(o:∀V',Sx.Own V0 V' e sz s (vs.set i v)->(∀c,¬Ct s c->V' c=V c)->q V'):AQ (Aa s.p i) 0 [v] V q:=by
 rcases h.cases0 with⟨u,z,y⟩|⟨H,g,cur,u,z,y,r,J,N,Z⟩;·rw[y]at hi;simp at hi
 have k:=h.len;have G:s.n*sz<=s.c*sz:=Nat.mul_le_mul_right _ r;rw[u];refine AQ.at2 (off:=i) y (by simp;omega) (o _ ⟨h.sub.set z _,by simpa using k,.inr ⟨g,_,u,z,Mem.set_same _ _ _,r,J,?_,?_⟩⟩ λc l=>?_);·grind
 ·grind[Mi,List.take_set]
 ·rw[Mem.set_ne];rintro rfl;exact l ⟨H,u⟩
theorem Own.moveB(h:Sx.Own V0 V e sz s vs)(z:V0.sub V')(y:∀g k,Ct s g->V g=some (.cells k e (0,0))->V' g=some (.cells k e (0,0))):Sx.Own V0 V' e sz s vs:=⟨z,h.len,by
 rcases h.cases0 with u|⟨i,g,k,u,l,r,q⟩;·exact .inl u
 ·exact .inr ⟨g,k,u,l,y g k ⟨i,u⟩ r,q⟩⟩
theorem Own.some(h:Sx.Own V0 V e sz s vs){c:Nat}(u:Ct s c):∃k,V c=some (.cells k e (0,0)):=by
 rcases h.cases0 with⟨-,z,-⟩|⟨-,g,k,y,z,i,-⟩;·exact absurd z u.1
 ·have:=y.symm.trans u.2;simp_all
theorem Own.none0(h:Sx.Own V0 V e sz s vs){c:Nat}(k:Ct s c):V0 c=none:=by
 rcases h.cases0 with⟨-,u,-⟩|⟨-,g,cur,z,u,y,-⟩;·exact absurd u k.1
 ·have:=z.symm.trans k.2;simp_all
end
theorem app48:AppP 48 90 2 Nd.row:=appG Tryz.underlying48 (by kernel_rfl) (by kernel_rfl) (by kernel_rfl) (by kernel_rfl) (by kernel_rfl) (by decide) (by intro _;rfl) λx u h=>by simp only[Nd.row,Sl.v,yD,xC,or_false]at h;rcases h with rfl|rfl<;>rfl
theorem DU:AppP 47 3 1 Am:=appG Tryz.underlying47 (by kernel_rfl) (by kernel_rfl) (by kernel_rfl) (by kernel_rfl) (by kernel_rfl) (by decide) (by intro _;rfl) λx u h=>by simp only[Am,yD,xC,or_false]at h;subst h;rfl
theorem KF(l:List Int):l.flatMap Am=l.map (xw .i64):=by
 induction l with
 |nil=>rfl
 |cons a l h=>rw[List.flatMap_cons,h];rfl
section
variable{V0 V V':Mem}{gs ns ls:Sl}{nd:List Nd}{st:St}
open Classical in
noncomputable def Mem.minus(V:Mem)(M:Nat->Prop):Mem:=λc=>if M c then none else V c
theorem GB{M:Nat->Prop}:(Mem.minus V M).sub V:=λc o h=>by
 grind[Mem.minus]
theorem Cn{M:Nat->Prop}{c:Nat}(h:¬M c):Mem.minus V M c=V c:=by grind[Mem.minus]
theorem Do{M:Nat->Prop}{c:Nat}(h:M c):Mem.minus V M c=none:=by grind[Mem.minus]
end
end Go.Proofs
