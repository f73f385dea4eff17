/- Part 4: no statement of the seat is proved here. -/
import Derived.Test.YtgdmkmfchcflpaaGreatDoorPe03
import Derived.Laws.AppendOwn
import Derived.Test.YtgdmkmfchcflpaaGreatDoorProg
import Derived.KernelRfl
set_option linter.unusedVariables false
set_option linter.unusedSimpArgs false
open Option.some renaming injEq->zF
open Go.Sem renaming run_bind->zK,run_pure->zM
open Go.Result renaming andThen_ok->zL
open List renaming map_cons->zG,length_cons->zy,getElem?_eq_some_iff->yv,getElem?_eq_getElem->yu,getElem_mem->yo,findIdx?_cons->ym,findIdx?->yk,findIdx?_eq_some_iff_getElem->yg,mem_iff_getElem->yd,flatMap_cons->yc,length_append->zw,eq_nil_of_length_eq_zero->ya,getElem?_map->y4,map_toArray->y8,not_mem_nil->xC,forall_mem_cons->xD
open Option renaming map_eq_some_iff->zi
open Go.IntKind renaming i64->yr
open Go.Addr renaming add->zE
open Go.Instr renaming lookup->yq,mapUpdate->yp,findNow->yn,findKey->yj,checkKey->yi
open List.cons renaming injEq->yE
open Go.Value.int renaming injEq->zk
open Go.MapKept renaming bytes_beq->yl,run_getObj_map->yh,run_setObj_map->yf
open Bool renaming false_eq_true->zN
open Array renaming getElem?_eq_getElem->yT,getElem?_eq_some_iff->yA,toList_modify->ye
open Nat renaming add_mul->yb,mul_le_mul_right->y5,one_mul->y6
open Go.Builtin renaming append_->y7,zeroCells->y9,lenOf->xA,firstCells->xB
open Go.Proofs.Tryz renaming prog->xE
namespace Go.Sx
open Go
section
variable{P:Program}{R:Ending->Mem->Prop}{fs:List Nat}{H:BV}
theorem Kk{O V0:Mem}{w0:World}{N:Nat}{β:Nat->Nat}{st:St}{ρ:List Value}{V:Mem}{tmps:Array Value}{w:World}(f:Rel O V0 w0 N β st ρ V tmps w):
  ∀(rs:List ResultVar)(ts:List T),resT P st rs=some ts->
   (rs.mapM λ|.tmp t=>pure (tmps.getD t undef)|.cell a t=>do loadVar t (<-asAddr (tmps.getD a undef)):Sem (List Value)).run P w=.ok (ts.map (·.ev ρ β)) w
 |[],ts,h=>by simp_all[resT,zF]
 |.tmp t::rs,ts,h=>by
  simp only[resT]at h;split at h
  ·rename_i x xs u z;simp only[zF]at h;subst h;have q:=Kk f rs xs z;simp only[List.mapM_cons,zK,zM,zL,f.slots t x u,zG];rw[q];rfl
  ·simp at h
 |.cell c t::rs,ts,h=>by
  simp only[resT]at h;split at h
  ·rename_i i o xs u z;cases y:st.box i with
   |none=>simp[y]at h
   |some j=>
    obtain⟨j,ty⟩:=j;simp only[y,Option.bind_some,zi]at h;obtain⟨x,J,rfl⟩:=h;have q:=Kk f rs xs z;have hl:=J7 (P:=P) (f.boxes i j ty y).1 J;have e:asAddr (tmps.getD c undef)=pure ⟨β i,o,none⟩:=by rw[f.slots c _ u];rfl
    simp_all
  ·simp at h
theorem Ng{O V0:Mem}{w0:World}{N:Nat}{β:Nat->Nat}{st:St}{ρ:List Value}{V:Mem}{tmps:Array Value}{w:World}(z:Rel O V0 w0 N β st ρ V tmps w){fn:Func}{t:T}
  (h:Iw P st fn.results.toList=some t):(results fn tmps).run P w=.ok (t.ev ρ β) w:=by
 unfold Iw at h;have key:∀ts,resT P st fn.results.toList=some ts->(results fn tmps).run P w=.ok (if h:(ts.map (·.ev ρ β)).toArray.size=1 then(ts.map (·.ev ρ β)).toArray[0]else .tuple (ts.map (·.ev ρ β)).toArray) w:=by
  intro ts f;have y:=Kk (P:=P) z _ ts f;unfold results;rw[Array.mapM_eq_mapM_toList];rw[zK,Sem.run_map]
  erw [y]
  rfl
 split at h;·simp_all
 ·rename_i ts u f;simp only[zF]at h;subst h;rw[key _ f];have:¬(ts.map (·.ev ρ β)).toArray.size=1:=by
   intro e
   match ts,e with
   |[x],_=>exact u x rfl
  rw[dif_neg this];simp only[T.ev,Cy]
 ·simp at h
theorem L4:∀(ps:List T)(n s:Nat)(t:T),((List.range' n ps.length).zip ps).lookup s=some t->∃i,s=n+i/\ps[i]?=some t
 |[],n,s,t,h=>by simp at h
 |p::ps,n,s,t,h=>by
  simp only[zy,List.range'_succ,List.zip_cons_cons,List.lookup_cons]at h;split at h
  ·rename_i e;simp only[beq_iff_eq]at e;subst e;exact⟨0,rfl,by simpa using h⟩
  ·obtain⟨i,u,f⟩:=L4 ps (n+1) s t h;exact⟨i+1,by omega,by simpa using f⟩
theorem tri_of_tree(u:DN P fs)(hm:P.follows .mixedOrders=true){f:FuncId}{fn:Func}(M:P.funcs[f]?=some fn){ps:List T}{ρ:List Value}{t:Tr}(F:Gp P fs H fn ps ρ.length=t){args:Array Value}(hargs:args=(ps.map (·.ev ρ id)).toArray)
  {V:Mem} (h:D P R t [] ρ V):Tri P f args V R:=by
 intro w X;subst F;unfold Gp at h;split at h;·exact h.elim
 ·rename_i c B;split at h;case isFalse=>exact h.elim
  rename_i z;obtain⟨h1,h2,C⟩:=z;rw[wf_ofList]at C;have K:args.size=ps.length:=by rw[hargs];simp
  refine calls_of_wp M B (ex_sound (V0:=V) (w0:=w) (H:=H) (R:=R) u hm c [] ρ _ _ _ w _ (λch W w' Q U=>⟨Q,U⟩) ⟨id,ρ,V,⟨List.prefix_refl _,rfl⟩,?_,h⟩ ?_)
  ·exact
   {nv:=rfl
    size:=by simp_all
    slots:=λs t hs=>by
     have hl:=G3 hs;simp only at hl;rw[List.range_eq_range']at hl;obtain⟨i,rfl,q⟩:=L4 ps 0 s t hl;have hlt:i<ps.length:=(yv.1 q).1;have O:ps[i]=t:=(yv.1 q).2;simp[Array.getD,show i<ps.length+(fn.ntmps-ps.length)by omega,hlt,hargs,O]
    frm:=Aq.refl X
    boxes:=λi cs ty q=>by simp[St.box]at q
    hid:=λb o hb=>by cases hb
    inj:=λi j q _ _=>by grind}
  ·intro e st' W w' L' _ Q J;have G:AM P R C8 V w H.N L' ρ W.tmps w' st' (pubT (st'.nb+2) st' (fun st=>Iw P st fn.results.toList) fun _ t=>.ret t) ->
     W.defers=[]/\∃v,(results fn W.tmps).run P w'=.ok v w'/\∃V',R (.returned v) V'/\Aq V w V' w':=by
    intro J;obtain⟨st2,t2,A,y,β,Z,V2,hp,I,Y⟩:=D0 _ _ _ _ J;simp only[D]at Y;rw[(T.ev_free (β:=id) (β':=β) (ρ:=Z) t2 y).1]at Y;exact⟨Q,_,Ng I A,V2,Y,I.frm⟩
   cases e with
   |normal=>exact G J
   |ret=>exact G J
   |exit j=>obtain⟨β,Z,V2,hp,I,Y⟩:=J;exact Y.elim
end
def Mem.sub(V V':Mem):Prop:=∀b o,V b=some o->V' b=some o
theorem Mem.sub.refl(V:Mem):V.sub V:=λ_ _ h=>h
theorem Mem.sub.trans{A B C:Mem}(h:A.sub B)(k:B.sub C):A.sub C:=λb o x=>k b o (h b o x)
theorem Mem.sub.set{V V':Mem}(h:V.sub V'){b:Nat}(w:V b=none)(o:Obj):V.sub (V'.set b o):=λc f u=>by
 by_cases e:c=b;·simp_all
 ·rw[Mem.set_ne e];exact h c f u
theorem Mem.sub.new{V V':Mem}(h:V.sub V'){b:Nat}(f:V' b=none)(o:Obj):V.sub (V'.set b o):=
 h.set (by cases u:V b with|none=>rfl|some x=>rw[h b x u]at f;cases f) o
theorem Mem.sub.row{V V':Mem}(h:V.sub V'){a:Addr}{n:Nat}{vs:List Value}(f:V.row a n=some vs):V'.row a n=some vs:=by
 unfold Mem.row at f⊢;split at f;·rename_i c x y u;rw[h _ _ u];exact f
 ·cases f
theorem Mem.sub.rowp{V V':Mem}(h:V.sub V'){p:Option Addr}{off n:Nat}{vs:List Value}(f:V.rowp p off n=some vs):V'.rowp p off n=some vs:=by
 cases p with
 |none=>cases f
 |some a=>exact h.row f
def AP(P:Program)(f:FuncId)(args:List Value)(V:Mem)(v:Value):Prop:=Tri P f args.toArray V λe V'=>e=.returned v/\V'=V
theorem Aq.less{V V' f:Mem}{w w':World}(h:Aq V w V' w')(z:f.sub V'):Aq V w f w':=
 {h with
  le:=λb o u=>h.le b o (z b o u)
  dom:=λb u=>h.dom b λe=>by
   cases y:f b with
   |none=>exact u y
   |some o=>rw[z b o y]at e;cases e}
theorem Tri.forget{P:Program}{f:FuncId}{args:Array Value}{V:Mem}{v:Value}(h:Tri P f args V λe V'=>e=.returned v/\V.sub V'):Tri P f args V λe V'=>e=.returned v/\V'=V:=by
 intro w hw u;obtain⟨e,w',z,⟨V',⟨y,j⟩,q⟩,rest⟩:=h w hw u;exact⟨e,w',z,⟨V,⟨y,rfl⟩,q.less j⟩,rest⟩
structure Sl where
 p:Option Addr
 n:Nat
 c:Nat
def Sl.v(s:Sl):Value:=.slice s.p s.n s.c
structure Ad (V:Mem)(s:Sl)(sz:Nat)(rows:List (List Value)):Prop where
 len:s.n=rows.length
 cap:s.n<=s.c
 fit:s.c<=9223372036854775807
 size:∀r∈rows,r.length=sz
 at_:∀i r,rows[i]?=some r->∃a,s.p=some a/\V.row (a.add (i*sz)) sz=some r
theorem Ad.sub{V V':Mem}{s:Sl}{sz:Nat}{rows:List (List Value)}(h:Ad V s sz rows)(f:V.sub V'):Ad V' s sz rows:=
 ⟨h.len,h.cap,h.fit,h.size,λi r u=>let⟨a,w,z⟩:=h.at_ i r u;⟨a,w,f.row z⟩⟩
theorem Ad.rowp{V:Mem}{s:Sl}{sz:Nat}{rows:List (List Value)}(h:Ad V s sz rows){i:Nat}{r:List Value}(f:rows[i]?=some r):V.rowp s.p (i*sz) sz=some r:=by
 obtain⟨a,u,w⟩:=h.at_ i r f;rw[u];exact w
theorem Ad.base{V:Mem}{s:Sl}{sz:Nat}{rows:List (List Value)}(h:Ad V s sz rows){i:Nat}(hi:i<rows.length):s.p.isNone=false:=by
 obtain⟨a,f,_⟩:=h.at_ i _ (yu hi);rw[f];rfl
def vI(n:Int):Value:=.int .i64 n
def vS(s:KB):Value:=.string s
inductive E where
 |mk (op n:Int) (s:KB) (l:Sl) (k:List E)
def E.op:E->Int|.mk o _ _ _ _=>o
def E.n:E->Int|.mk _ n _ _ _=>n
def E.s:E->KB|.mk _ _ s _ _=>s
def E.l:E->Sl|.mk _ _ _ l _=>l
def E.k:E->List E|.mk _ _ _ _ k=>k
def E.row(e:E):List Value:=[vI e.op,vI e.n,vS e.s,e.l.v]
def E.v(e:E):Value:=.agg e.row.toArray
inductive E.Ok (V:Mem):E->Prop where
 |mk {op n:Int} {s:KB} {l:Sl} {k:List E} (h:Ad V l 4 (k.map E.row)) (hk:∀x∈k,E.Ok V x) (ho:yr.min<=op/\op<=yr.max) (hn:yr.min<=n/\n<=yr.max):E.Ok V (.mk op n s l k)
theorem E.Ok.sub{V V':Mem}(f:V.sub V'):∀{e:E},E.Ok V e->E.Ok V' e:=by
 intro e h;induction h with
 |mk h hk ho hn u=>exact .mk (h.sub f) (λx hx=>u x hx) ho hn
structure Fld where
 name:KB
 ty:KB
def Fld.row(f:Fld):List Value:=[vS f.name,vS f.ty]
structure Ty where
 name:KB
 fs:Sl
 fields:List Fld
def Ty.row(t:Ty):List Value:=[vS t.name,t.fs.v]
structure Ty.Ok (V:Mem)(t:Ty):Prop where
 fields:Ad V t.fs 2 (t.fields.map Fld.row)
inductive S where
 |mk (op:Int) (s:KB) (el:Sl) (es:List E) (ll:Sl) (ls:List S) (xl:Sl) (xs:List S)
def S.row:S->List Value|.mk op s el _ ll _ xl _=>[vI op,vS s,el.v,ll.v,xl.v]
inductive S.Ok (V:Mem):S->Prop where
 |mk {op:Int} {s:KB} {el:Sl} {es:List E} {ll:Sl} {ls:List S} {xl:Sl} {xs:List S} (he:Ad V el 4 (es.map E.row)) (hes:∀x∈es,E.Ok V x)
   (hl:Ad V ll 5 (ls.map S.row)) (hls:∀x∈ls,S.Ok V x) (hx:Ad V xl 5 (xs.map S.row)) (hxs:∀x∈xs,S.Ok V x) (ho:yr.min<=op/\op<=yr.max):S.Ok V (.mk op s el es ll ls xl xs)
theorem S.Ok.sub{V V':Mem}(f:V.sub V'):∀{e:S},S.Ok V e->S.Ok V' e:=by
 intro e h;induction h with
 |mk he hes hl hls hx hxs ho u w=>exact .mk (he.sub f) (λx hx=>(hes x hx).sub f) (hl.sub f) u (hx.sub f) w ho
section
variable(P:Program)(R:Ending->Mem->Prop)
def LoopK(f:List Value)(ks:List K)(body:Tr)(L:List (List Value->Mem->Prop))(ρ:List Value)(V:Mem):Prop:=
 ∃(I:List Value->Mem->Prop)(w:List Value->Mem->Nat),I f V/\∀xs V',Shaped ks xs->I xs V'->D P R body (L++[λz u=>I z u/\w z u<w xs V']) (ρ++xs) V'
variable{P R}
variable{L:List (List Value->Mem->Prop)}{ρ:List Value}{V:Mem}
theorem ok_int{k:IntKind}{n:Int}:(K.i k).ok (.int k n)=True:=by simp[K.ok,K.cast,Ag]
theorem ok_b{b:Bool}:K.b.ok (.bool b)=True:=by simp[K.ok,K.cast,asB]
theorem ok_s{b:KB}:K.s.ok (.string b)=True:=by simp[K.ok,K.cast,AE]
theorem ok_p{b:Option Addr}:K.p.ok (.pointer b)=True:=by simp[K.ok,K.cast,AC]
theorem ok_sl{b:Option Addr}{n c:Nat}:K.sl.ok (.slice b n c)=True:=by simp[K.ok,K.cast,AC,Ey,asCap]
theorem ok_m{b:Option Nat}:K.m.ok (.map b)=True:=by simp[K.ok,K.cast,Gg]
open Classical in
theorem LoopK.rel{f:List Value}{ks:List K}{body:Tr}(I:Nat->List Value->Mem->Prop)(w:Nat)(y:I w f V)
  (round:∀n xs V',Shaped ks xs->I n xs V'->∀J:List Value->Mem->Prop,(∀m z u,m<n->I m z u->J z u)->D P R body (L++[J]) (ρ++xs) V'):LoopK P R f ks body L ρ V:=by
 let m:List Value->Mem->Nat:=λxs V'=>if h:∃n,I n xs V' then Classical.choose (Kj _ h)else 0
 have hm:∀xs V' (h:∃n,I n xs V'),I (m xs V') xs V'/\∀k,I k xs V'->m xs V'<=k:=λxs V' h=>by
  grind
 refine⟨λxs V'=>∃n,I n xs V',m,⟨w,y⟩,λxs V' j q=>?_⟩;grind
theorem row_cell1{b:Nat}{v:Value}{ty:Nat}(h:V b=some (.cells #[v] ty (0,0))):V.rowp (some ⟨b,0,none⟩) 0 1=some [v]:=by
 simp[Mem.rowp,Mem.row,h,zE]
theorem tri_of{fs:List Nat}{H:BV}(u:DN P fs)(hm:P.follows .mixedOrders=true){f:FuncId}{fn:Func}(z:P.funcs[f]?=some fn){ps:List T}{nv:Nat}{t:Tr}(y:Gp P fs H fn ps nv=t)
  (ρ:List Value) (hn:ρ.length=nv) {args:Array Value} (w:args=(ps.map (·.ev ρ id)).toArray) (h:D P R t [] ρ V):Tri P f args V R:=by
 subst hn;exact tri_of_tree u hm z y w h
end
def K.ex:K->(Value->Prop)->Prop
 |.i k,q=>∃n:Int,q (.int k n)
 |.b,q=>∃b:Bool,q (.bool b)
 |.s,q=>∃s:KB,q (.string s)
 |.sl,q=>∃s:Sl,q (.slice s.p s.n s.c)
 |.p,q=>∃a:Option Addr,q (.pointer a)
 |.m,q=>∃m:Option Nat,q (.map m)
 |.f,q=>∃v,K.f.ok v/\q v
 |.r,q=>∃v,K.r.ok v/\q v
def K.al:K->(Value->Prop)->Prop
 |.i k,q=>∀n:Int,q (.int k n)
 |.b,q=>∀b:Bool,q (.bool b)
 |.s,q=>∀s:KB,q (.string s)
 |.sl,q=>∀s:Sl,q (.slice s.p s.n s.c)
 |.p,q=>∀a:Option Addr,q (.pointer a)
 |.m,q=>∀m:Option Nat,q (.map m)
 |.f,q=>∀v,K.f.ok v->q v
 |.r,q=>∀v,K.r.ok v->q v
def DO:List K->(List Value->Prop)->Prop
 |[],p=>p []
 |k::f,p=>k.ex λv=>DO f λvs=>p (v::vs)
def G6:List K->(List Value->Prop)->Prop
 |[],p=>p []
 |k::f,p=>k.al λv=>G6 f λvs=>p (v::vs)
theorem K.ex_ok{k:K}{q:Value->Prop}(h:k.ex q):∃v,k.ok v/\q v:=by
 cases k<;>simp only[K.ex]at h;·grind[ok_int]
 ·grind[ok_b]
 ·grind[ok_s]
 ·grind[ok_sl]
 ·grind[ok_p]
 ·grind[ok_m]
 ·exact h
 ·exact h
theorem K.al_ok{k:K}{q:Value->Prop}(h:k.al q){v:Value}(f:k.ok v):q v:=by
 unfold K.ok at f;cases k<;>simp only[K.al]at h<;>simp only[K.cast]at f;·grind
 ·grind
 ·grind
 ·rw[<-f];exact h ⟨_,_,_⟩
 ·grind
 ·grind
 ·exact h _ f
 ·exact h _ f
theorem DO.shaped:∀{ks:List K}{p:List Value->Prop},DO ks p->∃vs,Shaped ks vs/\p vs
 |[],_,h=>⟨[],trivial,h⟩
 |_::_,_,h=>by
  obtain⟨v,f,h⟩:=K.ex_ok h;obtain⟨vs,u,h⟩:=DO.shaped h;exact⟨v::vs,⟨f,u⟩,h⟩
theorem G6.shaped:∀{ks:List K}{p:List Value->Prop},G6 ks p->∀{vs},Shaped ks vs->p vs
 |[],_,h,[],_=>h
 |[],_,_,_::_,f=>f.elim
 |_::_,_,_,[],f=>f.elim
 |_::_,_,h,_::_,f=>G6.shaped (K.al_ok h f.1) f.2
def K.inR:IntKind->Int->Prop
 |.i64,x=>-9223372036854775808<=x/\x<=9223372036854775807
 |.u8,x=>0<=x/\x<=255
 |k,x=>k.min<=x/\x<=k.max
theorem K.inR_iff{k:IntKind}{x:Int}:K.inR k x↔(k.min<=x/\x<=k.max):=by
 cases k<;>exact Iff.rfl
def T.holds(ρ:List Value):T->Prop
 |.u .not x=>¬x.holds ρ
 |.u (.inr k) x=>K.inR k (Ag (x.ev ρ id))
 |.u .pnil x=>AC (x.ev ρ id)=none
 |.u .slnil x=>AC (x.ev ρ id)=none
 |.u .mnil x=>Gg (x.ev ρ id)=none
 |.u .szero x=>AE (x.ev ρ id)=ByteArray.empty
 |.b2 .lt x y=>Ag (x.ev ρ id)<Ag (y.ev ρ id)
 |.b2 .le x y=>Ag (x.ev ρ id)<=Ag (y.ev ρ id)
 |.b2 .eqi x y=>Ag (x.ev ρ id)=Ag (y.ev ρ id)
 |.b2 .eqs x y=>AE (x.ev ρ id)=AE (y.ev ρ id)
 |.b2 .and x y=>x.holds ρ/\y.holds ρ
 |.b2 .or x y=>x.holds ρ∨y.holds ρ
 |.b2 .idxok x y=>0<=Ag (y.ev ρ id)/\Ag (y.ev ρ id)<(Ey (x.ev ρ id):Int)
 |.b2 .sidxok x y=>0<=Ag (y.ev ρ id)/\Ag (y.ev ρ id)<((AE (x.ev ρ id)).size:Int)
 |.c3 .bnd l h m=>0<=Ag (l.ev ρ id)/\Ag (l.ev ρ id)<=Ag (h.ev ρ id)/\Ag (h.ev ρ id)<=Ag (m.ev ρ id)
 |c=>asB (c.ev ρ id)=true
theorem T.holds_iff{ρ:List Value}:∀c:T,c.holds ρ↔asB (c.ev ρ id)=true
 |.u o x=>by
  cases o<;>simp only[T.holds,T.ev,U.ev,asB,Bool.not_eq_true',decide_eq_true_eq,T.holds_iff x,K.inR_iff,Option.isNone_iff_eq_none,<-Bool.not_eq_true]
 |.b2 o x y=>by
  cases o<;>simp only[T.holds,T.ev,B.ev,asB,decide_eq_true_eq,T.holds_iff x,T.holds_iff y,Bool.and_eq_true,Bool.or_eq_true,beq_iff_eq]
 |.c3 o x y z=>by
  cases o<;>simp only[T.holds,T.ev,C.ev,asB,decide_eq_true_eq]
 |.var _ _|.int _ _|.bool _|.str _|.und|.nilp|.nilsl|.nilm|.nilf|.nili|.box _ _|.glob _|.fn _ _|.nil|.cons _ _|.agg _|.tup _=>Iff.rfl
section
variable(P:Program)
def Bl(t:TypeId)(m key:Value)(ok:Bool)(V:Mem)(q:Value->Prop):Prop:=∀w,V.le w->∃x,(yq t m key ok).run P w=.ok x w/\q x
def BQ(t:TypeId)(m key val:Value)(V:Mem)(q:Mem->Prop):Prop:=∀w,V.le w->∃w' V',(yp t m key val).run P w=.ok () w'/\Aq V w V' w'/\q V'
def GenK(o:Op)(ty:Nat)(vals:Operand->Value)(V:Mem)(q:Value->Mem->Prop):Prop:=∀w,V.le w->∃x w' V',(execOp vals { dst:=none,op:=o,type:=ty,pos:= "",after:=#[],guard:=none}).run P w=.ok (.value x) w'/\Aq V w V' w'/\q x V'
def Nh(o:Option (List Value))(ks:List K)(q:List Value->Prop):Prop:=DO ks λvs=>o=some vs/\q vs
def AQ(p:Option Addr)(off:Nat)(cs:List Value)(V:Mem)(q:Mem->Prop):Prop:=
 ∃a c ty,p=some a/\V a.block=some (.cells c ty (0,0))/\a.spot=none/\a.off+off+cs.length<=c.size/\
  q (V.set a.block (.cells (c.toList.take (a.off+off)++cs++c.toList.drop (a.off+off+cs.length)).toArray ty (0,0)))
def Af(cs:List Value)(ty:Nat)(V:Mem)(q:Option Addr->Mem->Prop):Prop:=∀b,V b=none->q (some ⟨b,0,none⟩) (V.set b (.cells cs.toArray ty (0,0)))
def PanC(b:Bool)(R f:Ending->Mem->Prop):Ending->Mem->Prop:=
 match b with
 |false=>f
 |true=>λe V'=>f e V'∨∃u,e=.panicked u/\R e V'
theorem PanC.out{b:Bool}{R f:Ending->Mem->Prop}{e:Ending}{V':Mem}(h:PanC b R f e V'):f e V'∨∃u,e=.panicked u/\R e V':=by
 cases b with
 |false=>exact .inl h
 |true=>exact h
def CallT(b:Bool)(R:Ending->Mem->Prop)(f:Nat)(args:List Value)(rs:List RK)(V:Mem)(q:List Value->Mem->Prop):Prop:=
 Tri P f args.toArray V (PanC b R λe V'=>DO (rs.flatMap RK.kinds) λvs=>e=.returned (Ef rs vs)/\q vs V')
def CallvT(b:Bool)(R:Ending->Mem->Prop)(fv:Value)(args:List Value)(rs:List RK)(V:Mem)(q:List Value->Mem->Prop):Prop:=
 ∃f first u,fv=.func (.func f) first u/\(∀args w,(callFunc f args).run P w=.ok (.enter f args) w)/\
   Tri P f (first++args.toArray++u) V (PanC b R λe V'=>DO (rs.flatMap RK.kinds) λvs=>e=.returned (Ef rs vs)/\q vs V')
def LoopT(f:List Value)(ks:List K)(V:Mem)(q:(List Value->Mem->Prop)->List Value->Mem->Prop):Prop:=
 ∃(I:Nat->List Value->Mem->Prop)(w:Nat),I w f V/\∀n V',G6 ks λxs=>I n xs V'->∀J:List Value->Mem->Prop,(∀m ys u,m<n->I m ys u->J ys u)->q J xs V'
end
structure L5 where
 fs:List Nat:=[]
 v:Bool:=false
def DT(P:Program)(pn:L5)(R:Ending->Mem->Prop):Tr->List (List Value->Mem->Prop)->List Value->Mem->Prop
 |.bad _ _,_,_,_=>False
 |.ret v,_,ρ,V=>R (.returned (v.ev ρ id)) V
 |.br c a b,L,ρ,V=>
  match c with
  |.u .not d=>(d.holds ρ->DT P pn R b L ρ V)/\(¬d.holds ρ->DT P pn R a L ρ V)
  |c=>(c.holds ρ->DT P pn R a L ρ V)/\(¬c.holds ρ->DT P pn R b L ρ V)
 |.need c k,L,ρ,V=>c.holds ρ/\DT P pn R k L ρ V
 |.ld base q sz n G k,L,ρ,V=>Nh (V.rowp (AC (base.ev ρ id)) ((Ag (q.ev ρ id)).toNat*sz) n) G λvs=>DT P pn R k L (ρ++vs) V
 |.st p N z k,L,ρ,V=>AQ (AC (p.ev ρ id)) N (z.evs ρ id) V λV'=>DT P pn R k L ρ V'
 |.pub z ty k,L,ρ,V=>Af (z.evs ρ id) ty V λp V'=>DT P pn R k L (ρ++[.pointer p]) V'
 |.call f args rs k,L,ρ,V=>CallT P (pn.fs.contains f) R f (args.evs ρ id) rs V λvs V'=>DT P pn R k L (ρ++vs) V'
 |.callv Y args rs k,L,ρ,V=>CallvT P pn.v R (Y.ev ρ id) (args.evs ρ id) rs V λvs V'=>DT P pn R k L (ρ++vs) V'
 |.loop j G body,L,ρ,V=>LoopT (j.evs ρ id) G V λJ xs V'=>DT P pn R body (L++[J]) (ρ++xs) V'
 |.cont Z vals,L,ρ,V=>L.getD Z (λ_ _=>False) (vals.evs ρ id) V
 |.gen o ty ts rs k,L,ρ,V=>
  match o with
  |.lookup t x i ok=>Bl P t (gval ts ρ x) (gval ts ρ i) ok V λx=>DO (rs.flatMap RK.kinds) λvs=>x=Ef rs vs/\DT P pn R k L (ρ++vs) V
  |o=>GenK P o ty (gval ts ρ) V λx V'=>DO (rs.flatMap RK.kinds) λvs=>x=Ef rs vs/\DT P pn R k L (ρ++vs) V'
 |.again p z k,L,ρ,V=>V.rowp (AC (p.ev ρ id)) 0 (z.evs ρ id).length=some (z.evs ρ id)/\DT P pn R k L ρ V
 |.both a b,L,ρ,V=>DT P pn R a L ρ V/\DT P pn R b L ρ V
 |.pan v,_,ρ,V=>∃t x,v.ev ρ id=.iface t x/\R (.panicked [{v:=.iface t x,recovered:=false}]) V
 |.gens o ty ts k,L,ρ,V=>
  match o with
  |.mapUpdate t m x y|.insert t m x y=>BQ P t (gval ts ρ m) (gval ts ρ x) (gval ts ρ y) V λV'=>DT P pn R k L ρ V'
  |o=>∀w,V.le w->∃w' V',(execOp (gval ts ρ) { dst:=none,op:=o,type:=ty,pos:= "",after:=#[],guard:=none}).run P w=.ok .skip w'/\Aq V w V' w'/\DT P pn R k L ρ V'
section
variable{P:Program}{pn:L5}{R:Ending->Mem->Prop}
theorem Dw:∀(t:Tr)(L:List (List Value->Mem->Prop))(ρ:List Value)(V:Mem),DT P pn R t L ρ V->D P R t L ρ V
 |.bad _ _,_,_,_,h=>h
 |.ret v,_,ρ,V,h=>h
 |.br c a b,L,ρ,V,h=>by
  have h:(c.holds ρ->DT P pn R a L ρ V)/\(¬c.holds ρ->DT P pn R b L ρ V):=by
   simp only[DT]at h;split at h;·exact⟨λN=>h.2 N,λN=>h.1 (Classical.byContradiction λx=>N x)⟩
   ·exact h
  refine⟨λN=>Dw a L ρ V (h.1 ((T.holds_iff c).2 N)),λN=>Dw b L ρ V (h.2 λx=>?_)⟩;rw[T.holds_iff,N]at x;exact absurd x (by simp)
 |.need c k,L,ρ,V,h=>⟨(T.holds_iff c).1 h.1,Dw k L ρ V h.2⟩
 |.ld base F sz n X k,L,ρ,V,h=>by
  obtain⟨vs,q,u,z⟩:=DO.shaped h;exact⟨vs,u,q,Dw k L _ V z⟩
 |.st p B O k,L,ρ,V,h=>by
  obtain⟨a,c,ty,u,z,G,Y,W⟩:=h;exact⟨a,c,ty,u,z,G,Y,Dw k L ρ _ W⟩
 |.pub O ty k,L,ρ,V,h=>λb C=>Dw k L _ _ (h b C)
 |.call f args rs k,L,ρ,V,h=>by
  refine Tri.mono h λe V' h=>?_;rcases h.out with h|h
  ·obtain⟨vs,q,u,z⟩:=DO.shaped h;exact .inl ⟨vs,u,q,Dw k L _ _ z⟩
  ·exact .inr h
 |.callv fv args rs k,L,ρ,V,h=>by
  obtain⟨f,first,Z,u,z,h⟩:=h;refine⟨f,first,Z,u,z,Tri.mono h λe V' h=>?_⟩;rcases h.out with h|h
  ·obtain⟨vs,q,u,z⟩:=DO.shaped h;exact .inl ⟨vs,u,q,Dw k L _ _ z⟩
  ·exact .inr h
 |.loop A X body,L,ρ,V,h=>by
  obtain⟨I,K,U,h⟩:=h;exact LoopK.rel I K U λn xs V' q hI J hJ=>Dw body _ _ _ (G6.shaped (h n V') q hI J hJ)
 |.cont Q vals,L,ρ,V,h=>by
  simp only[DT,List.getD_eq_getElem?_getD]at h;cases hl:L[Q]? with
  |none=>simp_all
  |some J=>rw[hl]at h;exact⟨J,hl,h⟩
 |.gen o ty ts rs k,L,ρ,V,h=>by
  have key:∀(x:Value)(V':Mem),(DO (rs.flatMap RK.kinds) λvs=>x=Ef rs vs/\DT P pn R k L (ρ++vs) V')->∃vs,x=Ef rs vs/\Shaped (rs.flatMap RK.kinds) vs/\D P R k L (ρ++vs) V':=by
   intro x V' h;obtain⟨vs,q,u,z⟩:=DO.shaped h;exact⟨vs,u,q,Dw k L _ _ z⟩
  have j:(GenK P o ty (gval ts ρ) V λx V'=>DO (rs.flatMap RK.kinds) λvs=>x=Ef rs vs/\DT P pn R k L (ρ++vs) V')->D P R (.gen o ty ts rs k) L ρ V:=by
   intro h w hw;obtain⟨x,w',V',u,z,G⟩:=h w hw;obtain⟨vs,Y,W,M⟩:=key x V' G;grind
  cases o;case lookup t x i ok=>
   intro w hw;obtain⟨x,u,G⟩:=h w hw;obtain⟨vs,Y,W,M⟩:=key x V G;refine⟨x,w,V,vs,?_,Aq.refl hw,Y,W,M⟩;simp only[execOp,zK,u,zM,zL]
  all_goals exact j h
 |.again p O k,L,ρ,V,h=>⟨h.1,Dw k L ρ V h.2⟩
 |.both a b,L,ρ,V,h=>⟨Dw a L ρ V h.1,Dw b L ρ V h.2⟩
 |.pan _,_,_,_,h=>h
 |.gens o ty ts k,L,ρ,V,h=>by
  have j:(∀w,V.le w->∃w' V',(execOp (gval ts ρ) { dst:=none,op:=o,type:=ty,pos:= "",after:=#[],guard:=none}).run P w=.ok .skip w'/\Aq V w V' w'/\DT P pn R k L ρ V')->D P R (.gens o ty ts k) L ρ V:=by
   intro h w hw;obtain⟨w',V',u,z,G⟩:=h w hw;exact⟨w',V',u,z,Dw k L ρ V' G⟩
  have upd:∀(t:TypeId)(m x y:Value),BQ P t m x y V (λV'=>DT P pn R k L ρ V')->∀w,V.le w->∃w' V',(do yp t m x y;pure .skip:Sem Next).run P w=.ok .skip w'/\Aq V w V' w'/\DT P pn R k L ρ V':=by
   intro t m x y h w hw;obtain⟨w',V',u,z,G⟩:=h w hw;grind[zK,zM,zL]
  cases o;case mapUpdate t m x y=>exact j (upd _ _ _ _ h)
  case insert t m x y=>exact j (upd _ _ _ _ h)
  all_goals exact j h
theorem tri_dt{fs:List Nat}{H:BV}(u:DN P fs)(hm:P.follows .mixedOrders=true){f:FuncId}{fn:Func}(z:P.funcs[f]?=some fn){ps:List T}{nv:Nat}{t:Tr}(y:Gp P fs H fn ps nv=t)
  (ρ:List Value) (hn:ρ.length=nv) {args:List Value} (w:args=ps.map (·.ev ρ id)) {V:Mem} {q:Prop} (j:q=DT P pn R t [] ρ V) (h:q):Tri P f args.toArray V R:=by
 subst j;exact tri_of u hm z y ρ hn (by rw[w]) (Dw _ _ _ _ h)
end
theorem AP.call{P:Program}{f:FuncId}{args:List Value}{V:Mem}{v:Value}(h:AP P f args V v){q:Ending->Mem->Prop}(u:q (.returned v) V):Tri P f args.toArray V q:=
 Tri.mono h λ_ _ ⟨w,z⟩=>by simp_all
theorem AP.callv{P:Program}{f:FuncId}{first args caps:List Value}{V:Mem}{v:Value}(h:AP P f (first++args++caps) V v){q:Ending->Mem->Prop}(u:q (.returned v) V):Tri P f (first.toArray++args.toArray++caps.toArray) V q:=by
 have e:first.toArray++args.toArray++caps.toArray=(first++args++caps).toArray:=by simp
 rw[e];exact h.call u
theorem AP.mk{P:Program}{f:FuncId}{args:List Value}{V:Mem}{v:Value}(h:Tri P f args.toArray V λe V'=>e=.returned v/\V.sub V'):AP P f args V v:=h.forget
def LI(len:Nat)(St:Nat->List Value->Mem->Prop)(n:Nat)(xs:List Value)(V:Mem):Prop:=∃i,n=len-i/\i<=len/\St i xs V
theorem LI.next{len:Nat}{St:Nat->List Value->Mem->Prop}{J:List Value->Mem->Prop}{i:Nat}(u:∀m ys f,m<len-i->LI len St m ys f->J ys f)(hi:i<len){ys:List Value}{V:Mem}(h:St (i+1) ys V):J ys V:=
 u (len-(i+1)) ys V (by omega) ⟨i+1,rfl,hi,h⟩
theorem LI.start{len:Nat}{St:Nat->List Value->Mem->Prop}{xs:List Value}{V:Mem}(h:St 0 xs V):LI len St len xs V:=⟨0,rfl,Nat.zero_le _,h⟩
section
variable{V:Mem}
theorem E3{B:Int->Mem->(List Value->Mem->Prop)->Prop}(len:Nat)(St:Nat->Mem->Prop)(w:St 0 V)
  (step:∀(i:Nat) V1 J,i<=len->St i V1->(i<len->∀V2,St (i+1) V2->J [.int .i64 ((i:Int)+1)] V2)->B (i:Int) V1 J):
  ∃(I:Nat->List Value->Mem->Prop)(z:Nat),I z [.int .i64 0] V/\∀n V1,∀v:Int,I n [.int .i64 v] V1->∀J:List Value->Mem->Prop,(∀m ys f,m<n->I m ys f->J ys f)->B v V1 J:=by
 refine⟨LI len λi xs V=>xs=[.int .i64 i]/\St i V,len,LI.start ⟨rfl,w⟩,?_⟩;rintro n V1 v ⟨i,rfl,y,⟨⟩,j⟩ J q;exact step i V1 J y j λu V2 o=>LI.next q u ⟨rfl,o⟩
theorem Av{β:Type}{mk:β->Value}{B:β->Int->Mem->(List Value->Mem->Prop)->Prop}{b0:β}(len:Nat)(St:Nat->Mem->Prop)(z:St 0 V)
  (step:∀(i:Nat)(b:β) V1 J,i<=len->St i V1->(i<len->∀u V2,St (i+1) V2->J [mk u,.int .i64 ((i:Int)+1)] V2)->B b (i:Int) V1 J):
  ∃(I:Nat->List Value->Mem->Prop)(y:Nat),I y [mk b0,.int .i64 0] V/\∀n V1,∀b:β,∀v:Int,I n [mk b,.int .i64 v] V1->∀J:List Value->Mem->Prop,(∀m ys f,m<n->I m ys f->J ys f)->B b v V1 J:=by
 refine⟨LI len λi xs V=>∃b,xs=[mk b,.int .i64 i]/\St i V,len,LI.start ⟨b0,rfl,z⟩,?_⟩;rintro n V1 b v ⟨i,rfl,j,u,hx,q⟩ J o;simp only[yE,zk,true_and,and_true]at hx;obtain⟨-,rfl⟩:=hx;exact step i b V1 J j q λw u V2 G=>LI.next o w ⟨u,rfl,G⟩
theorem Da{β f:Type}{mk:β->Value}{mc:f->Value}{B:β->f->Int->Mem->(List Value->Mem->Prop)->Prop}{b0:β}{c0:f}(len:Nat)(St:Nat->Mem->Prop)(j:St 0 V)
  (step:∀(i:Nat)(b:β)(c:f) V1 J,i<=len->St i V1->(i<len->∀w z V2,St (i+1) V2->J [mk w,mc z,.int .i64 ((i:Int)+1)] V2)->B b c (i:Int) V1 J):
  ∃(I:Nat->List Value->Mem->Prop)(q:Nat),I q [mk b0,mc c0,.int .i64 0] V/\∀n V1,∀b:β,∀c:f,∀v:Int,I n [mk b,mc c,.int .i64 v] V1->∀J:List Value->Mem->Prop,(∀m ys u,m<n->I m ys u->J ys u)->B b c v V1 J:=by
 refine⟨LI len λi xs V=>∃b c,xs=[mk b,mc c,.int .i64 i]/\St i V,len,LI.start ⟨b0,c0,rfl,j⟩,?_⟩;rintro n V1 b c v ⟨i,rfl,o,w,z,hx,G⟩ J N;simp only[yE,zk,true_and,and_true]at hx;obtain⟨-,-,rfl⟩:=hx;exact step i b c V1 J o G λy w z V2 Z=>LI.next N y ⟨w,z,rfl,Z⟩
theorem Cz{β:Type}{mk:β->Value}{B:β->Int->Mem->(List Value->Mem->Prop)->Prop}{b0:β}(inj:∀x y,mk x=mk y->x=y)(len:Nat)(St:Nat->β->Mem->Prop)(z:St 0 b0 V)
  (step:∀(i:Nat)(b:β) V1 J,i<=len->St i b V1->(i<len->∀f V2,St (i+1) f V2->J [mk f,.int .i64 ((i:Int)+1)] V2)->B b (i:Int) V1 J):
  ∃(I:Nat->List Value->Mem->Prop)(j:Nat),I j [mk b0,.int .i64 0] V/\∀n V1,∀b:β,∀v:Int,I n [mk b,.int .i64 v] V1->∀J:List Value->Mem->Prop,(∀m ys u,m<n->I m ys u->J ys u)->B b v V1 J:=by
 refine⟨LI len λi xs V=>∃b,xs=[mk b,.int .i64 i]/\St i b V,len,LI.start ⟨b0,rfl,z⟩,?_⟩;rintro n V1 b v ⟨i,rfl,q,f,hx,o⟩ J G;simp only[yE,zk,true_and,and_true]at hx;obtain⟨N,rfl⟩:=hx;cases inj _ _ N;exact step i b V1 J q o λw f V2 Z=>LI.next G w ⟨f,rfl,Z⟩
theorem AG:∀x y:Sl,Value.slice x.p x.n x.c=Value.slice y.p y.n y.c->x=y:=by
 rintro⟨_,_,_⟩ ⟨_,_,_⟩ h;cases h;rfl
theorem Ax:∀x y:Int,Value.int .i64 x=Value.int .i64 y->x=y:=by simp_all
end
section
variable{α:Type}{V:Mem}{s:Sl}{sz:Nat}{row:α->List Value}{xs:List α}
theorem Ad.n_eq(h:Ad V s sz (xs.map row)):s.n=xs.length:=by simpa using h.len
theorem Ad.get(h:Ad V s sz (xs.map row)){i:Nat}(hi:(i:Int)<(s.n:Int)):
  ∃x,x∈xs/\xs[i]?=some x/\xs.drop i=x::xs.drop (i+1)/\i<xs.length/\¬(s.p=none)/\(0:Int)<=(i:Int)/\V.rowp s.p (i*sz) sz=some (row x):=by
 have hn:=h.n_eq;have f:i<xs.length:=by omega
 have u:(xs.map row)[i]?=some (row xs[i]):=by simp[f]
 refine⟨xs[i],yo _,yu f,by simp,f,λe=>?_,by omega,h.rowp u⟩;have:=h.base (i:=i) (by simpa using f);simp_all
theorem Ad.at_get(h:Ad V s sz (xs.map row)){i:Nat}{x:α}(hx:xs[i]?=some x):V.rowp s.p (i*sz) sz=some (row x):=h.rowp (by simp[hx])
theorem Ad.done(h:Ad V s sz (xs.map row)){i:Nat}(hi:¬((i:Int)<(s.n:Int))):xs.drop i=[]/\xs.length<=i:=by
 have hn:=h.n_eq;simp_all
theorem Ad.succ(h:Ad V s sz (xs.map row)){i:Nat}(hi:(i:Int)<(s.n:Int)):K.inR .i64 ((i:Int)+1):=by
 have:=h.cap;have:=h.fit;exact⟨by omega,by omega⟩
theorem Ad.nil{V:Mem}{sz:Nat}:Ad V ⟨none,0,0⟩ sz []:=⟨rfl,Nat.le_refl _,by simp,by simp,by simp⟩
end
theorem Mem.sub_new{V:Mem}{b:Nat}(f:V b=none)(o:Obj):V.sub (V.set b o):=(Mem.sub.refl V).set f o
theorem Mem.set_set(V:Mem)(b:Nat)(x y:Obj):(V.set b x).set b y=V.set b y:=by grind[Mem.set]
theorem Mem.set_comm(V:Mem){b c:Nat}(h:b≠c)(x y:Obj):(V.set b x).set c y=(V.set c y).set b x:=by
 grind[Mem.set]
theorem Mem.set_eq{V:Mem}{b:Nat}{o:Obj}(h:V b=some o):V.set b o=V:=by
 grind[Mem.set]
abbrev cell(v:Value)(t:Nat):Obj:=.cells #[v] t (0,0)
theorem AQ.cell{V:Mem}{b:Nat}{v f:Value}{t:Nat}{q:Mem->Prop}(h:V b=some (cell f t))(u:q (V.set b (Sx.cell v t))):AQ (some ⟨b,0,none⟩) 0 [v] V q:=
 ⟨⟨b,0,none⟩,#[f],t,rfl,h,rfl,by simp,by simpa using u⟩
theorem At{V:Mem}{b:Nat}{c:Array Value}{t:Nat}{f:Nat×Nat}(h:V b=some (.cells c t f))(off n:Nat)(hl:off+n<=c.size):V.rowp (some ⟨b,0,none⟩) off n=some ((c.toList.drop off).take n):=by
 have e:(⟨b,0,none⟩:Addr).add off=⟨b,off,none⟩:=by grind[zE]
 simp only[Mem.rowp,Mem.row,e,h];rw[if_pos ⟨rfl,hl⟩]
theorem Al{V:Mem}{b:Nat}{v:Value}{t:Nat}(h:V b=some (cell v t)):V.rowp (some ⟨b,0,none⟩) 0 1=some [v]:=row_cell1 h
/-! Maps with strings as keys. -/
def ED(es:List MapEntry)(k:KB):Option Value:=(es.find? λe=>decide (AE e.key=k)).map (·.val)
structure A6 (V:Mem)(b:Nat)(m:KB->Option Value):Prop where
 at_:∃es clock,V b=some (.map es clock)/\(∀e∈es.toList,∃s,e.key=.string s)/\∀k,ED es.toList k=m k
theorem A6.sub{V V':Mem}{b:Nat}{m:KB->Option Value}(h:A6 V b m)(f:V.sub V'):A6 V' b m:=by
 obtain⟨es,c,u,w,z⟩:=h.at_;exact⟨es,c,f _ _ u,w,z⟩
theorem A6.set{V:Mem}{b c:Nat}{o:Obj}{m:KB->Option Value}(h:A6 V b m)(hn:b≠c):A6 (V.set c o) b m:=by
 obtain⟨es,c,f,u,w⟩:=h.at_;exact⟨es,c,by rw[Mem.set_ne hn];exact f,u,w⟩
theorem A6.made(V:Mem)(b:Nat):A6 (V.set b (.map #[] 0)) b λ_=>none:=
 ⟨#[],0,Mem.set_same _ _ _,by simp,by simp[ED]⟩
theorem A6.congr{V:Mem}{b:Nat}{m m':KB->Option Value}(h:A6 V b m)(e:∀k,m k=m' k):A6 V b m':=by
 obtain⟨es,c,f,u,w⟩:=h.at_;exact⟨es,c,f,u,λk=>(w k).trans (e k)⟩
theorem L6(k:KB):∀(es:List MapEntry)(i:Nat),(∀e∈es,∃s,e.key=.string s)->
  yn .string (.string k) es i=some ((es.findIdx? λe=>decide (AE e.key=k)).bind λj=>(es[j]?).map λe=>(i+j,e.val))
 |[],_,_=>rfl
 |e::es,i,h=>by
  obtain⟨s,y⟩:=h e (by simp);have z:=L6 k es (i+1) λx hx=>h x (by simp[hx]);unfold yn;simp only[y,Instr.sameNow,ym];generalize o:(λe:MapEntry=>decide (AE e.key=k))=f at z⊢;have q:f e=decide (s=k):=by grind[AE]
  rw[show(decide (AE (Value.string s)=k))=decide (s=k)from rfl];by_cases hk:k=s
  ·subst hk;have u:(k==k)=true:=(yl _ _).2 rfl;simp[u]
  ·have w:¬s=k:=λe=>hk e.symm;have u:(k==s)=false:=by
    grind[absurd,yl]
   simp only[u,w,decide_false,zN,if_false,z];cases J:yk f es with
   |none=>simp
   |some j=>grind
theorem Kl(k:KB):∀es:List MapEntry,ED es k=(es.findIdx? λe=>decide (AE e.key=k)).bind λj=>(es[j]?).map (·.val)
 |[]=>rfl
 |e::es=>by
  have f:=Kl k es;unfold ED at f⊢;simp only[List.find?_cons,ym];by_cases hk:AE e.key=k;·simp[hk]
  ·simp only[hk,decide_false,zN,if_false,f];cases u:yk (λe=>decide (AE e.key=k)) es<;>simp
theorem IV{P:Program}{kt:TypeId}(hk:P.underlying kt=some .string)(k:KB)(es:List MapEntry)(h:∀e∈es,∃s,e.key=.string s)(w:World):
  (yj kt (.string k) es).run P w=.ok ((es.findIdx? λe=>decide (AE e.key=k)).bind λj=>(es[j]?).map λe=>(j,e.val)) w:=by
 simp_all[yj,zK,run_underlying,zL,L6,Nat.zero_add]
theorem IW{P:Program}{kt:TypeId}(hk:P.underlying kt=some .string)(b:Bool)(k:KB)(w:World):(yi b 10000 kt (.string k)).run P w=.ok () w:=by
 unfold yi;simp only[zK,run_underlying hk,zL];rfl
section
variable{P:Program}{t kt et:TypeId}
theorem Bl.str{V:Mem}{b:Nat}{m:KB->Option Value}(f:P.underlying t=some (.map kt et))(hk:P.underlying kt=some .string){z:Value}(G:∀w,(zeroValue et).run P w=.ok z w)
  (hm:A6 V b m) {k:KB} {q:Value->Prop} (u:q (.tuple #[(m k).getD z,.bool (m k).isSome])):Bl P t (.map (some b)) (.string k) true V q:=by
 intro w hw;obtain⟨es,c,y,o,J⟩:=hm.at_;refine⟨_,?_,u⟩;unfold yq;simp only[zK,run_underlying f,zL,yh (hw _ _ y),zM,IW hk,IV hk k _ o];rw[<-J k,Kl];cases N:yk (λe=>decide (AE e.key=k)) es.toList with
 |none=>simp_all
 |some j=>
  grind[yg,zM,yu,yT]
theorem Bl.str1{V:Mem}{b:Nat}{m:KB->Option Value}(f:P.underlying t=some (.map kt et))(hk:P.underlying kt=some .string){z:Value}(G:∀w,(zeroValue et).run P w=.ok z w)
  (hm:A6 V b m) {k:KB} {q:Value->Prop} (u:q ((m k).getD z)):Bl P t (.map (some b)) (.string k) false V q:=by
 intro w hw;obtain⟨es,c,y,o,J⟩:=hm.at_;refine⟨_,?_,u⟩;unfold yq;simp only[zK,run_underlying f,zL,yh (hw _ _ y),zM,IW hk,IV hk k _ o];rw[<-J k,Kl];cases N:yk (λe=>decide (AE e.key=k)) es.toList with
 |none=>simp_all
 |some j=>
  grind[yg,zM,yu,yT]
end
theorem Aq.put{V:Mem}{w:World}(hw:V.le w){b:Nat}{o u:Obj}(z:V b=some o):Aq V w (V.set b u) {w with heap:=w.heap.setIfInBounds b u}:=by
 have y:b<w.heap.size:=(yA.1 (hw b o z)).1;refine⟨by simp,λc x f=>?_,λc f hn=>?_,λc f=>?_,rfl,rfl⟩
 ·unfold Mem.set at f;split at f;·simp_all
  ·rename_i e;rw[Array.getElem?_setIfInBounds_ne (λh=>e h.symm)];exact hw c x f
 ·grind
 grind[Mem.set]
theorem asS_string(k:KB):AE (.string k)=k:=rfl
theorem lookE_push(es:List MapEntry)(k:KB)(val:Value)(c:Nat)(h:es.findIdx? (λe=>decide (AE e.key=k))=none)(x:KB):ED (es++[{key:=.string k,val:=val,born:=c}]) x=if x=k then some val else ED es x:=by
 grind[ED,AE]
theorem L7(k:KB)(val:Value):∀(es:List MapEntry)(i:Nat) (h:es.findIdx? (λe=>decide (AE e.key=k))=some i) (x:KB),ED (es.modify i λe=>{e with key:=.string k,val:=val}) x=if x=k then some val else ED es x
 |[],_,h,_=>by simp at h
 |e::es,i,h,x=>by
  rw[ym]at h;by_cases hk:AE e.key=k
  ·simp only[hk,decide_true,if_true,zF]at h;grind[ED,asS_string]
  ·simp only[hk,decide_false,zN,if_false,zi]at h;obtain⟨j,f,rfl⟩:=h;have u:=L7 k val es j f x;grind[ED,AE]
theorem BQ.str{P:Program}{t kt et:TypeId}{V:Mem}{b:Nat}{m:KB->Option Value}(W:P.underlying t=some (.map kt et))(hk:P.underlying kt=some .string)
  (hm:A6 V b m) {k:KB} {val:Value} {q:Mem->Prop} (N:∀o,A6 (V.set b o) b (λx=>if x=k then some val else m x)->q (V.set b o)):BQ P t (.map (some b)) (.string k) val V q:=by
 intro w hw;obtain⟨es,c,u,Z,I⟩:=hm.at_;have f:(yp t (.map (some b)) (.string k) val).run P w=
   (match es.toList.findIdx? (λe=>decide (AE e.key=k))with
   |some i=>(setObj b (.map (es.modify i λe=>{e with key:=.string k,val:=val}) c)).run P w
   |none=>(setObj b (.map (es.push {key:=.string k,val:=val,born:=c}) (c+1))).run P w):=by
  unfold yp;simp only[zK,run_underlying W,zL,yh (hw _ _ u),IW hk,IV hk k _ Z];cases y:yk (λe=>decide (AE e.key=k)) es.toList with
  |none=>rfl
  |some j=>
   have Q:=(yg.1 y);obtain⟨J,z,_⟩:=Q;obtain⟨s,O⟩:=Z es.toList[j] (yo _);have G:s=k:=of_decide_eq_true (by rw[O]at z;exact z);subst G;have A:j<es.size:=by simpa using J
   have Y:(es[j]?).map (·.key)=some (.string s):=by
    simp_all
   have M:(s==s)=true:=(yl _ _).2 rfl;grind[Instr.keyThatStays,Instr.sameBits]
 cases y:yk (λe=>decide (AE e.key=k)) es.toList with
 |none=>
  rw[y]at f;refine⟨_,V.set b (.map (es.push {key:=.string k,val:=val,born:=c}) (c+1)),f.trans (yf _ (hw _ _ u)),Aq.put hw u,N _ ⟨_,_,Mem.set_same _ _ _,?_,λx=>?_⟩⟩;·grind
  grind[Array.toList_push,lookE_push]
 |some j=>
  rw[y]at f;refine⟨_,V.set b (.map (es.modify j λe=>{e with key:=.string k,val:=val}) c),f.trans (yf _ (hw _ _ u)),Aq.put hw u,N _ ⟨_,_,Mem.set_same _ _ _,?_,λx=>?_⟩⟩
  ·intro e he;rw[ye]at he;obtain⟨i,F,rfl⟩:=yd.1 he;rw[List.getElem_modify];split;·grind
   simp_all
  simp_all[ye,L7]
/-! Appends. -/
structure Own (V0 V:Mem)(e:TypeId)(sz:Nat)(s:Sl)(vs:List Value):Prop where
 sub:V0.sub V
 len:vs.length=s.n*sz
 at_:(s.n=0/\s.c=0/\vs=[])∨∃g cur,s.p=some ⟨g,0,none⟩/\V0 g=none/\V g=some (.cells cur e (0,0))/\s.n<=s.c/\s.c<=maxLen/\cur.size=s.c*sz/\cur.toList.take (s.n*sz)=vs
theorem Own.nil{V0 V:Mem}(h:V0.sub V)(e:TypeId)(sz:Nat):Own V0 V e sz ⟨none,0,0⟩ []:=⟨h,by simp,.inl ⟨rfl,rfl,rfl⟩⟩
theorem Own.empty{V0 V:Mem}(h:V0.sub V)(e:TypeId)(sz:Nat)(p:Option Addr):Own V0 V e sz ⟨p,0,0⟩ []:=⟨h,by simp,.inl ⟨rfl,rfl,rfl⟩⟩
theorem Own.new{V0 V:Mem}{e:TypeId}{sz:Nat}{s:Sl}{vs:List Value}(h:Own V0 V e sz s vs){b:Nat}(u:V b=none)(o:Obj):Own V0 (V.set b o) e sz s vs:=by
 refine⟨Mem.sub.new h.sub u o,h.len,?_⟩;rcases h.at_ with f|⟨g,cur,f,w,z,y⟩;·exact .inl f
 grind[inr,Mem.set_ne]
theorem FQ{α:Type}{sz:Nat}{row:α->List Value}(f:∀x,(row x).length=sz):∀xs:List α,(xs.flatMap row).length=xs.length*sz
 |[]=>by simp
 |x::xs=>by rw[yc,zw,f,FQ f xs,zy,yb];omega
theorem IX{α:Type}{sz:Nat}{row:α->List Value}(f:∀x,(row x).length=sz):∀(xs:List α)(i:Nat)(x:α),xs[i]?=some x->((xs.flatMap row).drop (i*sz)).take sz=row x
 |[],_,_,h=>by simp at h
 |y::xs,0,x,h=>by
  simp_all
 |y::xs,i+1,x,h=>by
  rw[List.getElem?_cons_succ]at h;rw[yc,show(i+1)*sz=(row y).length+i*sz by rw[f,yb];omega,List.drop_append,Nat.add_sub_cancel_left,List.drop_eq_nil_of_le (by omega),List.nil_append];exact IX f xs i x h
theorem Own.n_eq{α:Type}{V0 V:Mem}{e:TypeId}{sz:Nat}{s:Sl}{row:α->List Value}{xs:List α}(h:Own V0 V e sz s (xs.flatMap row))(f:∀x,(row x).length=sz)(u:0<sz):s.n=xs.length:=by
 have:=h.len;rw[FQ f]at this;grind[Nat.eq_of_mul_eq_mul_right]
theorem Own.rows{α:Type}{V0 V:Mem}{e:TypeId}{sz:Nat}{s:Sl}{row:α->List Value}{xs:List α}(h:Own V0 V e sz s (xs.flatMap row))(j:∀x,(row x).length=sz)(u:0<sz):Ad V s sz (xs.map row):=by
 have hl:=h.n_eq j u;rcases h.at_ with⟨J,Q,O⟩|⟨g,cur,G,A,N,f,w,Z,z⟩
 ·have:xs=[]:=ya (by omega);subst this;exact⟨J,by omega,by omega,by simp,by simp⟩
 ·refine⟨by simpa using hl,f,w,?_,λi r q=>⟨_,G,?_⟩⟩;·simp_all
  ·rw[y4,zi]at q;obtain⟨x,hx,rfl⟩:=q;have Y:i<xs.length:=(yv.1 hx).1;have y:(i+1)*sz<=s.n*sz:=y5 _ (by omega);have o:s.n*sz<=s.c*sz:=y5 _ f;have W:(⟨g,0,none⟩:Addr).add (i*sz)=⟨g,i*sz,none⟩:=by grind[zE]
   rw[yb,y6]at y;unfold Mem.row;simp only[W,N];rw[if_pos ⟨rfl,by omega⟩];have I:=IX j xs i x hx;grind[List.drop_take,Nat.min_eq_left]
theorem Ad.cells{α:Type}{V:Mem}{b:Nat}{c:Array Value}{t:Nat}{y:Nat×Nat}{sz:Nat}{row:α->List Value}{xs:List α}(h:V b=some (.cells c t y))(u:c.toList=xs.flatMap row)(w:∀x,(row x).length=sz){n:Nat}(hn:n=xs.length)(j:xs.length<=9223372036854775807):
  Ad V ⟨some ⟨b,0,none⟩,n,n⟩ sz (xs.map row):=by
 subst hn;refine⟨by simp,Nat.le_refl _,j,?_,λi r z=>⟨_,rfl,?_⟩⟩;·simp_all
 ·rw[y4,zi]at z;obtain⟨x,hx,rfl⟩:=z;have q:i<xs.length:=(yv.1 hx).1;have o:(⟨b,0,none⟩:Addr).add (i*sz)=⟨b,i*sz,none⟩:=by grind[zE]
  have hl:c.size=xs.length*sz:=by rw[<-Array.length_toList,u,FQ w]
  have f:(i+1)*sz<=xs.length*sz:=y5 _ (by omega);rw[yb,y6]at f;unfold Mem.row;simp only[o,h];rw[if_pos ⟨rfl,by omega⟩,u,IX w xs i x hx]
theorem row_le{V:Mem}{w:World}(f:V.le w){a:Addr}{n:Nat}{vs:List Value}(h:V.row a n=some vs):vs.length=n/\∀j v,vs[j]?=some v->w.cell? (a.add j)=some v:=G4 f h
theorem Aq.new{V:Mem}{w:World}(hw:V.le w)(o:Obj):V w.heap.size=none/\Aq V w (V.set w.heap.size o) (w.drew.alloc o):=by
 have hn:V w.heap.size=none:=by
  cases h:V w.heap.size with
  |none=>rfl
  |some x=>
   have:=(yA.1 (hw _ _ h)).1;omega
 refine⟨hn,⟨by simp,λb x f=>?_,λb f _=>heap_alloc_old w.drew o b f,λb f=>?_,rfl,rfl⟩⟩
 ·unfold Mem.set at f;split at f;·rename_i e;subst e;cases f;exact heap_alloc_new w.drew o
  ·have u:=(yA.1 (hw _ _ f)).1;exact(heap_alloc_old w.drew o b u).trans (hw _ _ f)
 grind[Mem.set,inr]
theorem Aq.row{V:Mem}{w:World}(hw:V.le w){g:Nat}{cur new:Array Value}{e:TypeId}(z:V g=some (.cells cur e (0,0))):Aq V w (V.set g (.cells new e (0,0))) (w.setRow g new):=by
 have y:=hw _ _ z;refine⟨by simp,λb x f=>?_,λb f hn=>?_,λb f=>?_,rfl,rfl⟩
 ·unfold Mem.set at f;split at f;·rename_i u;subst u;cases f;exact _root_.Go.setRow_heap w b cur new e _ y
  ·rename_i u;exact(_root_.Go.setRow_other w g b _ u).trans (hw _ _ f)
 ·refine _root_.Go.setRow_other w g b _ ?_;grind
 grind[Mem.set]
theorem GenK.append{P:Program}{V0 V:Mem}{t e ty:TypeId}{i:TypeInfo}{z:Value}{sz:Nat}(F:P.underlying t=some (.slice e))(hi:P.info? e=some i)(hz:i.zero=some z)(J:i.size=sz)(B:z.cells.size=sz)(hsz:0<sz)(C:i.bytes<=65536)
  {x y:Operand} {vals:Operand->Value} {s:Sl} {a:Addr} {m c:Nat} {vs news:List Value} (hx:vals x=.slice s.p s.n s.c) (hy:vals y=.slice (some a) m c) (own:Own V0 V e sz s vs) (W:V.row a (m*sz)=some news)
  (h1:∀u∈news,u.oneCell'=true) (Q:s.n+m<=2147483648) {q:Value->Mem->Prop}
  (hq:∀s' V',Own V0 V' e sz s' (vs++news)->s'.n=s.n+m->q (.slice s'.p s'.n s'.c) V'):
  GenK P (.call {callee:=.builtin .append,args:=#[x,y],argTypes:=#[t,t]}) ty vals V q:=by
 intro w hw;subst J;obtain⟨hl,hc⟩:=row_le hw W;have X:(s.n+m)*i.bytes<=140737488355328:=Nat.le_trans (Nat.mul_le_mul Q C) (by decide);have G:∀(s':Sl)(V':Mem)(w':World),(y7 #[t,t] ty #[.slice s.p s.n s.c,.slice (some a) m c]).run P w=.ok (.slice s'.p s'.n s'.c) w'->Aq V w V' w'->Own V0 V' e i.size s' (vs++news)->s'.n=s.n+m->
   ∃v w' V',(execOp vals {dst:=none,op:=.call {callee:=.builtin .append,args:=#[x,y],argTypes:=#[t,t]},type:=ty,pos:= "",after:=#[],guard:=none}).run P w=.ok (.value v) w'/\Aq V w V' w'/\q v V':=by
  intro s' V' w' N D ho hn;refine⟨_,w',V',?_,D,hq s' V' ho hn⟩;unfold execOp;simp only[resolve,invoke,builtin,zK,zM,zL,y8,zG,List.map_nil,hx,hy,N]
 have o:(vs++news).length=(s.n+m)*i.size:=by rw[zw,own.len,hl,yb]
 have Z:∀old,old<s.n+m->(y7 #[t,t] ty #[.slice s.p s.n s.c,.slice (some a) m c]).run P w=
   .ok (.slice (some ⟨w.heap.size,0,none⟩) (s.n+m) (grownCap w (s.n+m) old e)) (w.drew.alloc (.cells (vs.toArray++news.toArray++y9 z.cells (grownCap w (s.n+m) old e-(s.n+m))) e))->
   ∃v w' V',(execOp vals {dst:=none,op:=.call {callee:=.builtin .append,args:=#[x,y],argTypes:=#[t,t]},type:=ty,pos:= "",after:=#[],guard:=none}).run P w=.ok (.value v) w'/\Aq V w V' w'/\q v V':=by
  intro old ho N;obtain⟨hn,D⟩:=Aq.new hw (.cells (vs.toArray++news.toArray++y9 z.cells (grownCap w (s.n+m) old e-(s.n+m))) e);have K:=grownCap_ge w (s.n+m) old e;refine G ⟨_,_,_⟩ _ _ N D ⟨Mem.sub.new own.sub hn _,o,.inr ⟨w.heap.size,_,rfl,?_,Mem.set_same _ _ _,K,grownCap_le_maxLen w _ old e (by simp only[maxLen];omega),?_,?_⟩⟩ rfl
  ·cases h0:V0 w.heap.size with
   |none=>rfl
   |some x=>rw[own.sub _ _ h0]at hn;cases hn
  ·simp only[Array.size_append,List.size_toArray,size_zeroCells,B,own.len,hl,<-yb];congr 1;show _=grownCap w (s.n+m) old e;omega
  grind
 rcases own.at_ with⟨hs,O,hv⟩|⟨g,cur,T,hg,U,hnc,A,hcs,Y⟩
 ·subst hv;by_cases hm:m=0
  ·subst hm;have hn:news=[]:=ya (by simpa using hl);subst hn;refine G s V w ?_ (Aq.refl hw) own rfl;rw[hs,O];cases s.p with
   |none=>simp[y7,run_underlying F,sizeOf,typeInfo,hi,xA,xB,loadCells,loadCellsFrom]
   |some a'=>simp[y7,run_underlying F,sizeOf,typeInfo,hi,xA,xB,loadCells,loadCellsFrom,storeCells]
  ·refine Z 0 (by omega) ?_;rw[hs,O];cases s.p with
   |none=>
    have N:=run_append_nil (P:=P) w t ty e i z F hi hz a m c news hl hc (by omega) (by omega) (by grind);simpa using N
   |some a'=>
    grind[run_append_grow,growslice_fits]
 ·by_cases f:s.n+m<=s.c
  ·have I:w.heap[g]?=some (.cells cur e (0,0)):=hw _ _ U;have hle:(s.n+m)*i.size<=s.c*i.size:=y5 _ f;have hmul:(s.n+m)*i.size=s.n*i.size+m*i.size:=yb _ _ _;have N:=run_append_room (P:=P) w t ty e i F hi g s.n s.c cur I a m c news hl hc h1 f (by omega);refine G ⟨some ⟨g,0,none⟩,s.n+m,s.c⟩ _ _ (by rw[T];exact N) (Aq.row hw U) ⟨own.sub.set hg _,o,.inr ⟨g,_,rfl,hg,Mem.set_same _ _ _,f,A,?_,?_⟩⟩ rfl;·grind
   grind
  ·have M:w.ownsRow 0 e i.size (.slice s.p s.n s.c) s.n vs:=⟨own.len,.inr ⟨g,s.c,cur,by rw[T],Nat.zero_le _,hw _ _ U,hnc,A,hcs,Y⟩⟩;have holds:∀j u,vs[j]?=some u->w.cell? ((⟨g,0,none⟩:Addr).add j)=some u:=M.cells (g:=g) (by rw[T];rfl);grind[run_append_grow,growslice_fits]
theorem GenK.append_none{P:Program}{V:Mem}{t e ty:TypeId}{i:TypeInfo}(u:P.underlying t=some (.slice e))(hi:P.info? e=some i)
  {x y:Operand} {vals:Operand->Value} {s:Sl} {p:Option Addr} {c:Nat} (hx:vals x=.slice s.p s.n s.c) (z:vals y=.slice p 0 c) (f:s.n<=s.c) {q:Value->Mem->Prop} (j:q (.slice s.p s.n s.c) V):
  GenK P (.call {callee:=.builtin .append,args:=#[x,y],argTypes:=#[t,t]}) ty vals V q:=by
 intro w hw;refine⟨_,w,V,?_,Aq.refl hw,j⟩;unfold execOp;simp only[resolve,invoke,builtin,zK,zM,zL,y8,zG,List.map_nil,hx,z];cases o:s.p with
 |none=>cases p with
  |none=>simp[y7,run_underlying u,sizeOf,typeInfo,hi,xA,xB,f]
  |some b=>simp[y7,run_underlying u,sizeOf,typeInfo,hi,xA,xB,f,loadCells,loadCellsFrom]
 |some a=>cases p with
  |none=>simp[y7,run_underlying u,sizeOf,typeInfo,hi,xA,xB,f,storeCells]
  |some b=>simp[y7,run_underlying u,sizeOf,typeInfo,hi,xA,xB,f,storeCells,loadCells,loadCellsFrom]
theorem IZ(a:Addr)(m n:Nat):(a.add m).add n=a.add (m+n):=by
 grind[zE]
theorem row_append{V:Mem}{a:Addr}{m n:Nat}{w z:List Value}(u:V.row a m=some w)(f:V.row (a.add m) n=some z)(hm:0<m):V.row a (m+n)=some (w++z):=by
 have e:a.add m=⟨a.block,a.off+m,none⟩:=by grind[zE]
 rw[e]at f;unfold Mem.row at u f⊢;simp only at f;split at u
 ·rename_i c x y j;simp only[j]at f;split at u
  ·rename_i q;split at f
   ·rename_i o;simp only[zF]at u f;rw[if_pos ⟨q.1,by omega⟩,<-u,<-f,zF,List.take_add,List.drop_drop]
   ·cases f
  ·cases u
 ·cases u
theorem Ad.flat{α:Type}{V:Mem}{sz:Nat}(f:0<sz){row:α->List Value}:∀(xs:List α)(a:Addr),xs≠[]->(∀i x,xs[i]?=some x->V.row (a.add (i*sz)) sz=some (row x))->V.row a (xs.length*sz)=some (xs.flatMap row)
 |[],_,h,_=>absurd rfl h
 |x::xs,a,_,h=>by
  have u:=h 0 x rfl;rw[Nat.zero_mul,show a.add 0=a by rfl]at u;by_cases hx:xs=[];·simp_all
  ·have z:=Ad.flat f xs (a.add sz) hx λi y w=>by
    rw[IZ,show sz+i*sz=(i+1)*sz by grind];exact h (i+1) y (by simpa using w)
   simp_all[zy,yb,y6,Nat.add_comm,yc,row_append]
theorem GenK.appendS{α:Type}{P:Program}{V0 V:Mem}{t e ty:TypeId}{i:TypeInfo}{z:Value}{sz:Nat}(I:P.underlying t=some (.slice e))(hi:P.info? e=some i)(X:i.zero=some z)(o:i.size=sz)(Y:z.cells.size=sz)(J:0<sz)(W:i.bytes<=65536)
  {x y:Operand} {vals:Operand->Value} {s u:Sl} {row:α->List Value} {xs ys:List α} (hx:vals x=.slice s.p s.n s.c) (N:vals y=.slice u.p u.n u.c) (own:Own V0 V e sz s (xs.flatMap row)) (B:∀x,(row x).length=sz) (f:Ad V u sz (ys.map row))
  (C:∀x,∀u∈row x,u.oneCell'=true) (M:xs.length+ys.length<=2147483648) {q:Value->Mem->Prop}
  (F:∀s' V',Own V0 V' e sz s' ((xs++ys).flatMap row)->q (.slice s'.p s'.n s'.c) V'):
  GenK P (.call {callee:=.builtin .append,args:=#[x,y],argTypes:=#[t,t]}) ty vals V q:=by
 have hn:=f.n_eq;have D:=own.n_eq B J;by_cases G:ys=[]
 ·subst G;rw[hn]at N;refine GenK.append_none I hi hx N ?_ (F s V (by simpa using own));rcases own.at_ with⟨C,U,h3⟩|⟨g,cur,Z,hg,hV,Q,_⟩;·omega
  ·exact Q
 ·obtain⟨y0,O⟩:=List.exists_mem_of_ne_nil _ G;cases Z:u.p with
  |none=>
   obtain⟨j,K,rfl⟩:=yd.1 O;have:=f.base (i:=j) (by simpa using K);rw[Z]at this;cases this
  |some a=>
   rw[Z]at N;have w:=Ad.flat (V:=V) J ys a G λi x A=>by
    have:=f.at_get A;rw[Z]at this;exact this
   rw[<-hn]at w;refine GenK.append I hi X o Y J W hx N own w ?_ (by omega) λs' V' ho T=>F s' V' (by simp_all);grind
theorem Tri.less{P:Program}{f:FuncId}{args:Array Value}{V:Mem}{R:Ending->Mem->Prop}(h:Tri P f args V λe V'=>∃W,R e W/\W.sub V'):Tri P f args V R:=by
 intro w hw u;obtain⟨e,w',z,⟨V',⟨W,y,j⟩,q⟩,rest⟩:=h w hw u;exact⟨e,w',z,⟨W,y,q.less j⟩,rest⟩
section
variable{V:Mem}
theorem loop4s{β u f:Type}{mk:β->Value}{mc:u->Value}{md:f->Value}{B:β->u->f->Int->Mem->(List Value->Mem->Prop)->Prop}(b0:β)(c0:u)(o:f)(inj:∀x y,md x=md y->x=y)(len:Nat)(St:Nat->f->Mem->Prop)(N:St 0 o V)
  (step:∀(i:Nat)(b:β)(c:u)(d:f) V1 J,i<=len->St i d V1->(i<len->∀j q w V2,St (i+1) w V2->J [mk j,mc q,md w,.int .i64 ((i:Int)+1)] V2)->B b c d (i:Int) V1 J):
  ∃(I:Nat->List Value->Mem->Prop)(Z:Nat),I Z [mk b0,mc c0,md o,.int .i64 0] V/\∀n V1,∀b:β,∀c:u,∀d:f,∀v:Int,I n [mk b,mc c,md d,.int .i64 v] V1->∀J:List Value->Mem->Prop,(∀m ys z,m<n->I m ys z->J ys z)->B b c d v V1 J:=by
 refine⟨LI len λi xs V=>∃b c d,xs=[mk b,mc c,md d,.int .i64 i]/\St i d V,len,LI.start ⟨b0,c0,o,rfl,N⟩,?_⟩;rintro n V1 b c d v ⟨i,rfl,Y,j,q,w,hx,W⟩ J Q;simp only[yE,zk,true_and,and_true]at hx;obtain⟨-,-,O,rfl⟩:=hx;cases inj _ _ O;exact step i b c d V1 J Y W λG j q w V2 A=>LI.next Q G ⟨j,q,w,rfl,A⟩
theorem FR{β f:Type}{mk:β->Value}{mc:f->Value}{B:β->f->Int->Mem->(List Value->Mem->Prop)->Prop}(b0:β)(c0:f)(inj:∀x y,mc x=mc y->x=y)(len:Nat)(St:Nat->f->Mem->Prop)(q:St 0 c0 V)
  (step:∀(i:Nat)(b:β)(c:f) V1 J,i<=len->St i c V1->(i<len->∀z u V2,St (i+1) u V2->J [mk z,mc u,.int .i64 ((i:Int)+1)] V2)->B b c (i:Int) V1 J):
  ∃(I:Nat->List Value->Mem->Prop)(o:Nat),I o [mk b0,mc c0,.int .i64 0] V/\∀n V1,∀b:β,∀c:f,∀v:Int,I n [mk b,mc c,.int .i64 v] V1->∀J:List Value->Mem->Prop,(∀m ys w,m<n->I m ys w->J ys w)->B b c v V1 J:=by
 refine⟨LI len λi xs V=>∃b c,xs=[mk b,mc c,.int .i64 i]/\St i c V,len,LI.start ⟨b0,c0,rfl,q⟩,?_⟩;rintro n V1 b c v ⟨i,rfl,G,z,u,hx,N⟩ J Z;simp only[yE,zk,true_and,and_true]at hx;obtain⟨-,Y,rfl⟩:=hx;cases inj _ _ Y;exact step i b c V1 J G N λj z u V2 W=>LI.next Z j ⟨z,u,rfl,W⟩
end
def Fld.v(f:Fld):Value:=.agg f.row.toArray
def Ty.v(f:Ty):Value:=.agg f.row.toArray
def S.op:S->Int|.mk o _ _ _ _ _ _ _=>o
def S.s:S->KB|.mk _ s _ _ _ _ _ _=>s
def S.el:S->Sl|.mk _ _ l _ _ _ _ _=>l
def S.es:S->List E|.mk _ _ _ l _ _ _ _=>l
def S.ll:S->Sl|.mk _ _ _ _ l _ _ _=>l
def S.ls:S->List S|.mk _ _ _ _ _ l _ _=>l
def S.xl:S->Sl|.mk _ _ _ _ _ _ l _=>l
def S.xs:S->List S|.mk _ _ _ _ _ _ _ l=>l
def S.v(f:S):Value:=.agg f.row.toArray
structure Pr where
 name:KB
 ps:Sl
 params:List Fld
 result:KB
 ls:Sl
 locals:List Fld
 bs:Sl
 body:List S
def Pr.row(p:Pr):List Value:=[vS p.name,p.ps.v,vS p.result,p.ls.v,p.bs.v]
def Pr.v(f:Pr):Value:=.agg f.row.toArray
structure Pr.Ok (V:Mem)(p:Pr):Prop where
 params:Ad V p.ps 2 (p.params.map Fld.row)
 locals:Ad V p.ls 2 (p.locals.map Fld.row)
 body:Ad V p.bs 5 (p.body.map S.row)
 stmts:∀s∈p.body,S.Ok V s
structure Ms where
 name:KB
 ty:KB
 nil:Int
 x:E
def Ms.row(p:Ms):List Value:=[vS p.name,vS p.ty,vI p.nil,vI p.x.op,vI p.x.n,vS p.x.s,p.x.l.v]
def Ms.v(f:Ms):Value:=.agg f.row.toArray
structure Ms.Ok (V:Mem)(p:Ms):Prop where
 x:E.Ok V p.x
 nil:yr.min<=p.nil/\p.nil<=yr.max
structure Iv where
 name:KB
 ty:KB
 x:E
def Iv.row(p:Iv):List Value:=[vS p.name,vS p.ty,vI p.x.op,vI p.x.n,vS p.x.s,p.x.l.v]
def Iv.v(f:Iv):Value:=.agg f.row.toArray
structure Po where
 ty:KB
 x:E
def Po.row(p:Po):List Value:=[vS p.ty,vI p.x.op,vI p.x.n,vS p.x.s,p.x.l.v]
structure Bd where
 proc:KB
 x:E
def Bd.row(p:Bd):List Value:=[vS p.proc,vI p.x.op,vI p.x.n,vS p.x.s,p.x.l.v]
def Bd.v(f:Bd):Value:=.agg f.row.toArray
structure Ds where
 name:KB
 ts:Sl
 types:List Ty
 gs:Sl
 globals:List Fld
 ps:Sl
 procs:List Pr
 ms:Sl
 measures:List Ms
 is:Sl
 invs:List Iv
 qs:Sl
 pots:List Po
 bs:Sl
 bounds:List Bd
def Ds.row(d:Ds):List Value:=[vS d.name,d.ts.v,d.gs.v,d.ps.v,d.ms.v,d.is.v,d.qs.v,d.bs.v]
def Ds.v(d:Ds):Value:=.agg d.row.toArray
structure Ds.Ok (V:Mem)(d:Ds):Prop where
 types:Ad V d.ts 2 (d.types.map Ty.row)
 typesOk:∀t∈d.types,Ty.Ok V t
 globals:Ad V d.gs 2 (d.globals.map Fld.row)
 procs:Ad V d.ps 5 (d.procs.map Pr.row)
 procsOk:∀p∈d.procs,Pr.Ok V p
 measures:Ad V d.ms 7 (d.measures.map Ms.row)
 measuresOk:∀p∈d.measures,Ms.Ok V p
 invs:Ad V d.is 6 (d.invs.map Iv.row)
 invsOk:∀p∈d.invs,E.Ok V p.x
 pots:Ad V d.qs 5 (d.pots.map Po.row)
 potsOk:∀p∈d.pots,E.Ok V p.x
 bounds:Ad V d.bs 5 (d.bounds.map Bd.row)
 boundsOk:∀p∈d.bounds,E.Ok V p.x
theorem Ty.Ok.sub{V V':Mem}{t:Ty}(h:Ty.Ok V t)(f:V.sub V'):Ty.Ok V' t:=⟨h.fields.sub f⟩
theorem Pr.Ok.sub{V V':Mem}{t:Pr}(h:Pr.Ok V t)(f:V.sub V'):Pr.Ok V' t:=⟨h.params.sub f,h.locals.sub f,h.body.sub f,λs m=>S.Ok.sub f (h.stmts s m)⟩
theorem Ms.Ok.sub{V V':Mem}{t:Ms}(h:Ms.Ok V t)(f:V.sub V'):Ms.Ok V' t:=⟨h.x.sub f,h.nil⟩
theorem Ds.Ok.sub{V V':Mem}{d:Ds}(h:Ds.Ok V d)(f:V.sub V'):Ds.Ok V' d:=
 ⟨h.types.sub f,λt m=>(h.typesOk t m).sub f,h.globals.sub f,h.procs.sub f,λt m=>(h.procsOk t m).sub f,h.measures.sub f,λt m=>(h.measuresOk t m).sub f,h.invs.sub f,λt m=>(h.invsOk t m).sub f,h.pots.sub f,λt m=>(h.potsOk t m).sub f,h.bounds.sub f,λt m=>(h.boundsOk t m).sub f⟩
theorem E.Ok.rows{V:Mem}{e:E}(h:E.Ok V e):Ad V e.l 4 (e.k.map E.row):=by cases h;assumption
theorem E.Ok.kids{V:Mem}{e:E}(h:E.Ok V e):∀x∈e.k,E.Ok V x:=by cases h;assumption
theorem S.Ok.eRows{V:Mem}{e:S}(h:S.Ok V e):Ad V e.el 4 (e.es.map E.row):=by cases h;assumption
theorem S.Ok.eOk{V:Mem}{e:S}(h:S.Ok V e):∀x∈e.es,E.Ok V x:=by cases h;assumption
theorem S.Ok.lRows{V:Mem}{e:S}(h:S.Ok V e):Ad V e.ll 5 (e.ls.map S.row):=by cases h;assumption
theorem S.Ok.lOk{V:Mem}{e:S}(h:S.Ok V e):∀x∈e.ls,S.Ok V x:=by cases h;assumption
theorem S.Ok.xRows{V:Mem}{e:S}(h:S.Ok V e):Ad V e.xl 5 (e.xs.map S.row):=by cases h;assumption
theorem S.Ok.xOk{V:Mem}{e:S}(h:S.Ok V e):∀x∈e.xs,S.Ok V x:=by cases h;assumption
theorem S.row_eq(s:S):s.row=[vI s.op,vS s.s,s.el.v,s.ll.v,s.xl.v]:=by cases s;rfl
theorem E.ind{p:E->Prop}(h:∀e:E,(∀x∈e.k,p x)->p e):∀e,p e:=λe=>
 E.rec (motive_1:=p) (motive_2:=λl=>∀x∈l,p x) (λ_ _ _ _ _ f=>h _ f) (λ_ hx=>absurd hx xC) (λ_ _ u hl=>xD.2 ⟨u,hl⟩) e
theorem S.ind{p:S->Prop}(h:∀e:S,(∀x∈e.ls,p x)->(∀x∈e.xs,p x)->p e):∀e,p e:=λe=>
 S.rec (motive_1:=p) (motive_2:=λl=>∀x∈l,p x) (λ_ _ _ _ _ _ _ _ f u=>h _ f u) (λ_ hx=>absurd hx xC) (λ_ _ w hl=>xD.2 ⟨w,hl⟩) e
end Go.Sx
namespace Go.Proofs
open Go Go.Sx
abbrev uB(b:Bool):Value:=.bool b
abbrev uL(s:Sl):Value:=.slice s.p s.n s.c
abbrev uP(p:Option Addr):Value:=.pointer p
abbrev uM(m:Option Nat):Value:=.map m
abbrev uA(l:Array Value):Value:=.agg l
abbrev uI(n:Int):Value:=.int .i64 n
abbrev uS(s:KB):Value:=.string s
abbrev rV(v:Value):Ending:=.returned v
@[simp] abbrev KQ:=rV (uB false)
@[simp] abbrev KX:=rV (uB true)
abbrev rT(l:Array Value):Ending:=.returned (.tuple l)
abbrev RP:=Ending->Mem->Prop
abbrev TT:=Tri xE
abbrev Br(c a b:Prop):Prop:=(c->a)/\(¬c->b)
abbrev IR(x:Int):Prop:=K.inR .i64 x
def flatV(args:List Value):List Value:=args.flatMap λ|.agg f=>f.toList|v=>[v]
def Ac(l:List UInt8):KB:=⟨l.toArray⟩
def fs:List Nat:=[3,4,5,6,7,8,9,10,11,12,13,14,15,16,17,18,19,20,21,22,23,24,25,26,27,28,29,30,31,32,33,34,35,36,37,38,39,40,41,42,43,44,45,46,47,48,49,50,51,52,53,54,55,56,57,58,59,60,61,62,63,64,65,66,67,68,69,70,71,72,73,74,75,76,77,78,79,80,81,82,83,84,85,86,87,88,89,90,91,92,93,94,95,96,97,98,99,100,101,102,103,104,105,106,107,108,109,110,111,112,113,114,115,116,117,118,119,120,121,122,123,124,125,126,127,128,129,130,131,132,133,134,135,136,137,138,139,140,141,142,143,144,145,146,147,148,149,150,151,152,153,154,155,156,157,158,159,160,161,162,163,164,165,166,167,168,169,170,171,172,173,174,175,176,177,178,179,180,181,182,183,184,185,186,187,188,189,190,191,192,193,194,195,196,197,198,199,200,201,202,203,204,205,206,207,208,209,210,211,212,213,214,215,216,217,218,219,220,221,222,223,224,225,226,227,228,229,230,231,232,233,234,235,236,237,238,239,240,241,242,243,244,245,246,247,248,249,250,251,252,253,254,255,256,257,258,259,260,261,262,263,264,265,266,267,268,269,270,271,272,296]
def pans:List Nat:=[]
theorem Km:xE.follows .mixedOrders=true:=rfl
def Gt(f:Nat):Prop:=∀args w,(callFunc f args).run xE w=.ok (.enter f args) w
theorem Ab{f:Nat}{l:List Nat}(h:Gt f)(k:∀g∈l,Gt g):∀g∈f::l,Gt g:=λg u=>by
 rcases List.mem_cons.1 u with rfl|u;·exact h
 ·exact k g u
set_option maxRecDepth 100000 in
theorem I0:DN xE fs:=
 (Ab Tryz.call3 (Ab Tryz.call4 (Ab Tryz.call5 (Ab Tryz.call6 (Ab Tryz.call7 (Ab Tryz.call8 (Ab Tryz.call9 (Ab Tryz.call10 (Ab Tryz.call11 (Ab Tryz.call12 (Ab Tryz.call13 (Ab Tryz.call14 (Ab Tryz.call15 (Ab Tryz.call16 (Ab Tryz.call17 (Ab Tryz.call18 (Ab Tryz.call19 (Ab Tryz.call20 (Ab Tryz.call21 (Ab Tryz.call22 (Ab Tryz.call23 (Ab Tryz.call24 (Ab Tryz.call25 (Ab Tryz.call26 (Ab Tryz.call27 (Ab Tryz.call28 (Ab Tryz.call29 (Ab Tryz.call30 (Ab Tryz.call31 (Ab Tryz.call32 (Ab Tryz.call33 (Ab Tryz.call34 (Ab Tryz.call35 (Ab Tryz.call36 (Ab Tryz.call37 (Ab Tryz.call38 (Ab Tryz.call39 (Ab Tryz.call40 (Ab Tryz.call41 (Ab Tryz.call42 (Ab Tryz.call43 (Ab Tryz.call44 (Ab Tryz.call45 (Ab Tryz.call46 (Ab Tryz.call47 (Ab Tryz.call48 (Ab Tryz.call49 (Ab Tryz.call50 (Ab Tryz.call51 (Ab Tryz.call52 (Ab Tryz.call53 (Ab Tryz.call54 (Ab Tryz.call55 (Ab Tryz.call56 (Ab Tryz.call57 (Ab Tryz.call58 (Ab Tryz.call59 (Ab Tryz.call60 (Ab Tryz.call61 (Ab Tryz.call62 (Ab Tryz.call63 (Ab Tryz.call64 (Ab Tryz.call65 (Ab Tryz.call66 (Ab Tryz.call67 (Ab Tryz.call68 (Ab Tryz.call69 (Ab Tryz.call70 (Ab Tryz.call71 (Ab Tryz.call72 (Ab Tryz.call73 (Ab Tryz.call74 (Ab Tryz.call75 (Ab Tryz.call76 (Ab Tryz.call77 (Ab Tryz.call78 (Ab Tryz.call79 (Ab Tryz.call80 (Ab Tryz.call81 (Ab Tryz.call82 (Ab Tryz.call83 (Ab Tryz.call84 (Ab Tryz.call85 (Ab Tryz.call86 (Ab Tryz.call87 (Ab Tryz.call88 (Ab Tryz.call89 (Ab Tryz.call90 (Ab Tryz.call91 (Ab Tryz.call92 (Ab Tryz.call93 (Ab Tryz.call94 (Ab Tryz.call95 (Ab Tryz.call96 (Ab Tryz.call97 (Ab Tryz.call98 (Ab Tryz.call99 (Ab Tryz.call100 (Ab Tryz.call101 (Ab Tryz.call102 (Ab Tryz.call103 (Ab Tryz.call104 (Ab Tryz.call105 (Ab Tryz.call106 (Ab Tryz.call107 (Ab Tryz.call108 (Ab Tryz.call109 (Ab Tryz.call110 (Ab Tryz.call111 (Ab Tryz.call112 (Ab Tryz.call113 (Ab Tryz.call114 (Ab Tryz.call115 (Ab Tryz.call116 (Ab Tryz.call117 (Ab Tryz.call118 (Ab Tryz.call119 (Ab Tryz.call120 (Ab Tryz.call121 (Ab Tryz.call122 (Ab Tryz.call123 (Ab Tryz.call124 (Ab Tryz.call125 (Ab Tryz.call126 (Ab Tryz.call127 (Ab Tryz.call128 (Ab Tryz.call129 (Ab Tryz.call130 (Ab Tryz.call131 (Ab Tryz.call132 (Ab Tryz.call133 (Ab Tryz.call134 (Ab Tryz.call135 (Ab Tryz.call136 (Ab Tryz.call137 (Ab Tryz.call138 (Ab Tryz.call139 (Ab Tryz.call140 (Ab Tryz.call141 (Ab Tryz.call142 (Ab Tryz.call143 (Ab Tryz.call144 (Ab Tryz.call145 (Ab Tryz.call146 (Ab Tryz.call147 (Ab Tryz.call148 (Ab Tryz.call149 (Ab Tryz.call150 (Ab Tryz.call151 (Ab Tryz.call152 (Ab Tryz.call153 (Ab Tryz.call154 (Ab Tryz.call155 (Ab Tryz.call156 (Ab Tryz.call157 (Ab Tryz.call158 (Ab Tryz.call159 (Ab Tryz.call160 (Ab Tryz.call161 (Ab Tryz.call162 (Ab Tryz.call163 (Ab Tryz.call164 (Ab Tryz.call165 (Ab Tryz.call166 (Ab Tryz.call167 (Ab Tryz.call168 (Ab Tryz.call169 (Ab Tryz.call170 (Ab Tryz.call171 (Ab Tryz.call172 (Ab Tryz.call173 (Ab Tryz.call174 (Ab Tryz.call175 (Ab Tryz.call176 (Ab Tryz.call177 (Ab Tryz.call178 (Ab Tryz.call179 (Ab Tryz.call180 (Ab Tryz.call181 (Ab Tryz.call182 (Ab Tryz.call183 (Ab Tryz.call184 (Ab Tryz.call185 (Ab Tryz.call186 (Ab Tryz.call187 (Ab Tryz.call188 (Ab Tryz.call189 (Ab Tryz.call190 (Ab Tryz.call191 (Ab Tryz.call192 (Ab Tryz.call193 (Ab Tryz.call194 (Ab Tryz.call195 (Ab Tryz.call196 (Ab Tryz.call197 (Ab Tryz.call198 (Ab Tryz.call199 (Ab Tryz.call200 (Ab Tryz.call201 (Ab Tryz.call202 (Ab Tryz.call203 (Ab Tryz.call204 (Ab Tryz.call205 (Ab Tryz.call206 (Ab Tryz.call207 (Ab Tryz.call208 (Ab Tryz.call209 (Ab Tryz.call210 (Ab Tryz.call211 (Ab Tryz.call212 (Ab Tryz.call213 (Ab Tryz.call214 (Ab Tryz.call215 (Ab Tryz.call216 (Ab Tryz.call217 (Ab Tryz.call218 (Ab Tryz.call219 (Ab Tryz.call220 (Ab Tryz.call221 (Ab Tryz.call222 (Ab Tryz.call223 (Ab Tryz.call224 (Ab Tryz.call225 (Ab Tryz.call226 (Ab Tryz.call227 (Ab Tryz.call228 (Ab Tryz.call229 (Ab Tryz.call230 (Ab Tryz.call231 (Ab Tryz.call232 (Ab Tryz.call233 (Ab Tryz.call234 (Ab Tryz.call235 (Ab Tryz.call236 (Ab Tryz.call237 (Ab Tryz.call238 (Ab Tryz.call239 (Ab Tryz.call240 (Ab Tryz.call241 (Ab Tryz.call242 (Ab Tryz.call243 (Ab Tryz.call244 (Ab Tryz.call245 (Ab Tryz.call246 (Ab Tryz.call247 (Ab Tryz.call248 (Ab Tryz.call249 (Ab Tryz.call250 (Ab Tryz.call251 (Ab Tryz.call252 (Ab Tryz.call253 (Ab Tryz.call254 (Ab Tryz.call255 (Ab Tryz.call256 (Ab Tryz.call257 (Ab Tryz.call258 (Ab Tryz.call259 (Ab Tryz.call260 (Ab Tryz.call261 (Ab Tryz.call262 (Ab Tryz.call263 (Ab Tryz.call264 (Ab Tryz.call265 (Ab Tryz.call266 (Ab Tryz.call267 (Ab Tryz.call268 (Ab Tryz.call269 (Ab Tryz.call270 (Ab Tryz.call271 (Ab Tryz.call272 (Ab Tryz.call296 (λ_ h=>absurd h xC))))))))))))))))))))))))))))))))))))))))))))))))))))))))))))))))))))))))))))))))))))))))))))))))))))))))))))))))))))))))))))))))))))))))))))))))))))))))))))))))))))))))))))))))))))))))))))))))))))))))))))))))))))))))))))))))))))))))))))))))))))))))))))))))))))))))))))))))
theorem DB{f:FuncId}{fn:Func}(w:xE.funcs[f]?=some fn)(early:List Nat)(loops:List (Nat×List Nat))(pv:Bool){args:List Value}(u:args=(G0 xE fn).map (·.ev (flatV args) id)){V:Mem}{R:Ending->Mem->Prop}{q:Prop}
  (z:q=DT xE ⟨pans,pv⟩ R (Gp xE fs (hintF fn early loops) fn (G0 xE fn) (flatV args).length) [] (flatV args) V) (h:q):Tri xE f args.toArray V R:=
 tri_dt I0 Km w rfl (flatV args) rfl u z h
theorem BC{f:FuncId}{fn:Func}(w:xE.funcs[f]?=some fn)(early:List Nat)(loops:List (Nat×List Nat))(pv:Bool){args:List Value}(ρ:List Value)(u:args=(G0 xE fn).map (·.ev ρ id)){V:Mem}{R:Ending->Mem->Prop}{q:Prop}
  (z:q=DT xE ⟨pans,pv⟩ R (Gp xE fs (hintF fn early loops) fn (G0 xE fn) ρ.length) [] ρ V) (h:q):Tri xE f args.toArray V R:=
 tri_dt I0 Km w rfl ρ rfl u z h
def hK(n:Nat):BV:={N:=0,early:=[],loops:=[],keep:=List.range n}
abbrev Ix(s:Sl)(i:Int)(q:Prop):Prop:=¬s.p=none/\0<=i/\i<(s.n:Int)/\q
abbrev TI(f:FuncId)(a:Array Value)(V:Mem)(F:Int->Mem->Prop):Prop:=TT f a V λe V1=>∃v,e=rV (uI v)/\F v V1
abbrev TB(f:FuncId)(a:Array Value)(V:Mem)(F:Bool->Mem->Prop):Prop:=TT f a V λe V1=>∃v,e=rV (uB v)/\F v V1
abbrev TL(f:FuncId)(a:Array Value)(V:Mem)(F:Sl->Mem->Prop):Prop:=TT f a V λe V1=>∃v,e=rV (uL v)/\F v V1
abbrev TP(f:FuncId)(a:Array Value)(V:Mem)(F:Option Addr->Mem->Prop):Prop:=TT f a V λe V1=>∃v,e=rV (uP v)/\F v V1
abbrev LMP:=List Value->Mem->Prop
abbrev _root_.Go.KZ:=List Value->Mem->Prop
abbrev Nx(I:Nat->LMP)(n:Nat)(J:LMP):Prop:=∀m ys f,m<n->I m ys f->J ys f
abbrev Lp(a:List Value)(V:Mem)(F:(Nat->LMP)->Nat->Mem->Prop):Prop:=∃(I:Nat->LMP)(f:Nat),I f a V/\∀n V1,F I n V1
abbrev uD(a:KB)(b c d e f g h:Sl):Value:=uA #[uS a,uL b,uL c,uL d,uL e,uL f,uL g,uL h]
theorem Ae{f:FuncId}{fn:Func}{V:Mem}{R:RP}{args:List Value}(w:xE.funcs[f]?=some fn){q:Prop}(h:q)(u:args=(G0 xE fn).map (·.ev (flatV args) id):=by kernel_rfl)
 (z:q=DT xE ⟨pans,false⟩ R (Gp xE fs (hintF fn [] []) fn (G0 xE fn) (flatV args).length) [] (flatV args) V:=by kernel_rfl):Tri xE f args.toArray V R:=DB w [] [] false u z h
@[simp] abbrev z0:Value:=.slice none 0 0
@[simp] abbrev Ap (i j t:Nat) (X Y:Value) (V:Mem) (F:Sl->Mem->Prop):Prop:=GenK xE (.call {callee:=(.builtin .append),args:=#[(.tmp i),(.tmp j)],argTypes:=#[t,t]}) t (gv [(i,X),(j,Y)]) V λx V2=>∃v,x=uL v/\F v V2
@[simp] abbrev N2 (a:Option Addr) (q:Prop):Prop:=¬a=none/\¬a=none/\q
@[simp] abbrev IY (V:Mem) (s:Sl) (i:Int) (F:Int->Prop):Prop:=∃v,V.rowp s.p (i.toNat*1) 1=some [uI v]/\F v
abbrev pv(b:Nat):Value:=.pointer (some ⟨b,0,none⟩)
abbrev sa(b:Nat):Option Addr:=some ⟨b,0,none⟩
abbrev OV(R:KZ):Ending->Mem->Prop:=λe V'=>∃vs:List Value,e=.returned (.tuple vs.toArray)/\R vs V'
abbrev CO(f:Nat):Prop:=∀args w,(callFunc f args).run xE w=.ok (.enter f args) w
abbrev MR:=Mem->RP->Prop
theorem As{V:Mem}{b:Nat}{o:Obj}:(V.set b o) b=some o:=Mem.set_same _ _ _
end Go.Proofs
