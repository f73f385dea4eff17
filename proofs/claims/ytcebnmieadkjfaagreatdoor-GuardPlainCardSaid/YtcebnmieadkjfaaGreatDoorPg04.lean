/- Part 4: no statement of the seat is proved here. -/
import Derived.Test.YtcebnmieadkjfaaGreatDoorPg03
import Derived.Laws.AppendOwn
import Derived.Test.YtcebnmieadkjfaaGreatDoorProg
import Derived.KernelRfl
set_option linter.unusedVariables false
set_option linter.unusedSimpArgs false
open Option.some renaming injEq->zF
open Go.Sem renaming run_bind->zK,run_pure->zM
open Go.Result renaming andThen_ok->zL
open List renaming map_cons->zG,length_cons->zy,getElem?_eq_some_iff->yv,getElem?_eq_getElem->yu,getElem_mem->yn,findIdx?_cons->yl,findIdx?->yj,findIdx?_eq_some_iff_getElem->yf,mem_iff_getElem->yc,flatMap_cons->yb,length_append->zw,eq_nil_of_length_eq_zero->y4,getElem?_map->y5,map_toArray->y9,not_mem_nil->xD,forall_mem_cons->xE
open Option renaming map_eq_some_iff->zi
open Go.IntKind renaming i64->yr
open Go.Addr renaming add->zE
open Go.Instr renaming lookup->yq,mapUpdate->yp,findNow->ym,findKey->yi,checkKey->yh
open List.cons renaming injEq->yE
open Go.Value.int renaming injEq->zk
open Go.Value renaming string->yo
open Go.MapKept renaming bytes_beq->yk,run_getObj_map->yg,run_setObj_map->ye
open Bool renaming false_eq_true->zN
open Array renaming getElem?_eq_getElem->yT,getElem?_eq_some_iff->yA,toList_modify->yd
open Nat renaming add_mul->ya,mul_le_mul_right->y6,one_mul->y7
open Go.Builtin renaming append_->y8,zeroCells->xA,lenOf->xB,firstCells->xC
open Go.Proofs.Tryz renaming prog->xG
namespace Go.Sx
open Go
section
variable{P:Program}{R:Ending->Mem->Prop}{fs:List Nat}{H:Ca}
theorem JL{O V0:Mem}{w0:World}{N:Nat}{β:Nat->Nat}{st:St}{ρ:List Value}{V:Mem}{tmps:Array Value}{w:World}(f:Rel O V0 w0 N β st ρ V tmps w):
  ∀(rs:List ResultVar)(ts:List T),resT P st rs=some ts->
   (rs.mapM λ|.tmp t=>pure (tmps.getD t undef)|.cell a t=>do loadVar t (<-asAddr (tmps.getD a undef)):Sem (List Value)).run P w=.ok (ts.map (·.ev ρ β)) w
 |[],ts,h=>by simp_all[resT,zF]
 |.tmp t::rs,ts,h=>by
  simp only[resT]at h;split at h
  ·rename_i x xs u z;simp only[zF]at h;subst h;have j:=JL f rs xs z;simp only[List.mapM_cons,zK,zM,zL,f.slots t x u,zG];rw[j];rfl
  ·simp at h
 |.cell c t::rs,ts,h=>by
  simp only[resT]at h;split at h
  ·rename_i i o xs u z;cases y:st.box i with
   |none=>simp[y]at h
   |some cs=>
    obtain⟨cs,ty⟩:=cs;simp only[y,Option.bind_some,zi]at h;obtain⟨x,q,rfl⟩:=h;have j:=JL f rs xs z;have hl:=GY (P:=P) (f.boxes i cs ty y).1 q;have e:asAddr (tmps.getD c undef)=pure ⟨β i,o,none⟩:=by rw[f.slots c _ u];rfl
    simp_all
  ·simp at h
theorem Nk{O V0:Mem}{w0:World}{N:Nat}{β:Nat->Nat}{st:St}{ρ:List Value}{V:Mem}{tmps:Array Value}{w:World}(z:Rel O V0 w0 N β st ρ V tmps w){fn:Func}{t:T}
  (h:Ii P st fn.results.toList=some t):(results fn tmps).run P w=.ok (t.ev ρ β) w:=by
 unfold Ii at h;have key:∀ts,resT P st fn.results.toList=some ts->(results fn tmps).run P w=.ok (if h:(ts.map (·.ev ρ β)).toArray.size=1 then(ts.map (·.ev ρ β)).toArray[0]else .tuple (ts.map (·.ev ρ β)).toArray) w:=by
  intro ts f;have y:=JL (P:=P) z _ ts f;unfold results;rw[Array.mapM_eq_mapM_toList];rw[zK,Sem.run_map]
  erw [y]
  rfl
 split at h;·simp_all
 ·rename_i ts u f;simp only[zF]at h;subst h;rw[key _ f];have:¬(ts.map (·.ev ρ β)).toArray.size=1:=by
   intro e
   match ts,e with
   |[x],_=>exact u x rfl
  rw[dif_neg this];simp only[T.ev,CE]
 ·simp at h
theorem Lv:∀(ps:List T)(n s:Nat)(t:T),((List.range' n ps.length).zip ps).lookup s=some t->∃i,s=n+i/\ps[i]?=some t
 |[],n,s,t,h=>by simp at h
 |p::ps,n,s,t,h=>by
  simp only[zy,List.range'_succ,List.zip_cons_cons,List.lookup_cons]at h;split at h
  ·rename_i e;simp only[beq_iff_eq]at e;subst e;exact⟨0,rfl,by simpa using h⟩
  ·obtain⟨i,u,f⟩:=Lv ps (n+1) s t h;exact⟨i+1,by omega,by simpa using f⟩
theorem tri_of_tree(u:Dz P fs)(hm:P.follows .mixedOrders=true){f:FuncId}{fn:Func}(F:P.funcs[f]?=some fn){ps:List T}{ρ:List Value}{t:Tr}(X:Gj P fs H fn ps ρ.length=t){args:Array Value}(hargs:args=(ps.map (·.ev ρ id)).toArray)
  {V:Mem} (h:D P R t [] ρ V):Tri P f args V R:=by
 intro w B;subst X;unfold Gj at h;split at h;·exact h.elim
 ·rename_i c C;split at h;case isFalse=>exact h.elim
  rename_i z;obtain⟨h1,h2,K⟩:=z;rw[wf_ofList]at K;have U:args.size=ps.length:=by rw[hargs];simp
  refine calls_of_wp F C (ex_sound (V0:=V) (w0:=w) (H:=H) (R:=R) u hm c [] ρ _ _ _ w _ (λch Q w' O hR=>⟨O,hR⟩) ⟨id,ρ,V,⟨List.prefix_refl _,rfl⟩,?_,h⟩ ?_)
  ·exact
   {nv:=rfl
    size:=by simp_all
    slots:=λs t hs=>by
     have hl:=GZ hs;simp only at hl;rw[List.range_eq_range']at hl;obtain⟨i,rfl,J⟩:=Lv ps 0 s t hl;have hlt:i<ps.length:=(yv.1 J).1;have A:ps[i]=t:=(yv.1 J).2;simp[Array.getD,show i<ps.length+(fn.ntmps-ps.length)by omega,hlt,hargs,A]
    frm:=Aq.refl B
    boxes:=λi cs ty J=>by simp[St.box]at J
    hid:=λb o hb=>by cases hb
    inj:=λi j J _ _=>by grind}
  ·intro e y Q w' L' _ O G;have Z:AV P R CZ V w H.N L' ρ Q.tmps w' y (pubT (y.nb+2) y (fun st=>Ii P st fn.results.toList) fun _ t=>.ret t) ->
     Q.defers=[]/\∃v,(results fn Q.tmps).run P w'=.ok v w'/\∃V',R (.returned v) V'/\Aq V w V' w':=by
    intro G;obtain⟨st2,t2,I,q,β,Y,V2,hp,M,W⟩:=DK _ _ _ _ G;simp only[D]at W;rw[(T.ev_free (β:=id) (β':=β) (ρ:=Y) t2 q).1]at W;exact⟨O,_,Nk M I,V2,W,M.frm⟩
   cases e with
   |normal=>exact Z G
   |ret=>exact Z G
   |exit j=>obtain⟨β,Y,V2,hp,M,W⟩:=G;exact W.elim
end
def Mem.sub(V V':Mem):Prop:=∀b o,V b=some o->V' b=some o
theorem Mem.sub.refl(V:Mem):V.sub V:=λ_ _ h=>h
theorem Mem.sub.trans{A B C:Mem}(h:A.sub B)(k:B.sub C):A.sub C:=λb o x=>k b o (h b o x)
theorem Mem.sub.set{V V':Mem}(h:V.sub V'){b:Nat}(w:V b=none)(o:Obj):V.sub (V'.set b o):=λc f u=>by
 by_cases e:c=b;·simp_all
 ·rw[Mem.set_ne e];exact h c f u
theorem Mem.sub.new{V V':Mem}(h:V.sub V'){b:Nat}(f:V' b=none)(o:Obj):V.sub (V'.set b o):=
 h.set (by cases hv:V b with|none=>rfl|some x=>rw[h b x hv]at f;cases f) o
theorem Mem.sub.row{V V':Mem}(h:V.sub V'){a:Addr}{n:Nat}{vs:List Value}(f:V.row a n=some vs):V'.row a n=some vs:=by
 unfold Mem.row at f⊢;split at f;·rename_i c x y u;rw[h _ _ u];exact f
 ·cases f
theorem Mem.sub.rowp{V V':Mem}(h:V.sub V'){p:Option Addr}{off n:Nat}{vs:List Value}(f:V.rowp p off n=some vs):V'.rowp p off n=some vs:=by
 cases p with
 |none=>cases f
 |some a=>exact h.row f
def A1(P:Program)(f:FuncId)(args:List Value)(V:Mem)(v:Value):Prop:=Tri P f args.toArray V λe V'=>e=.returned v/\V'=V
theorem Aq.less{V V' f:Mem}{w w':World}(h:Aq V w V' w')(z:f.sub V'):Aq V w f w':=
 {h with
  le:=λb o u=>h.le b o (z b o u)
  dom:=λb u=>h.dom b λe=>by
   cases hv:f b with
   |none=>exact u hv
   |some o=>rw[z b o hv]at e;cases e}
theorem Tri.forget{P:Program}{f:FuncId}{args:Array Value}{V:Mem}{v:Value}(h:Tri P f args V λe V'=>e=.returned v/\V.sub V'):Tri P f args V λe V'=>e=.returned v/\V'=V:=by
 intro w hw cs;obtain⟨e,w',fr,⟨V',⟨u,z⟩,y⟩,rest⟩:=h w hw cs;exact⟨e,w',fr,⟨V,⟨u,rfl⟩,y.less z⟩,rest⟩
structure Sl where
 p:Option Addr
 n:Nat
 c:Nat
def Sl.v(s:Sl):Value:=.slice s.p s.n s.c
structure Ad (V:Mem)(s:Sl)(sz:Nat)(rows:List (List Value)):Prop where
 len:s.n=rows.length
 cap:s.n<=s.c
 fit:s.c<=9223372036854775807
 size:∀r∈rows,r.length=sz
 at_:∀i r,rows[i]?=some r->∃a,s.p=some a/\V.row (a.add (i*sz)) sz=some r
theorem Ad.sub{V V':Mem}{s:Sl}{sz:Nat}{rows:List (List Value)}(h:Ad V s sz rows)(f:V.sub V'):Ad V' s sz rows:=
 ⟨h.len,h.cap,h.fit,h.size,λi r u=>let⟨a,w,z⟩:=h.at_ i r u;⟨a,w,f.row z⟩⟩
theorem Ad.rowp{V:Mem}{s:Sl}{sz:Nat}{rows:List (List Value)}(h:Ad V s sz rows){i:Nat}{r:List Value}(f:rows[i]?=some r):V.rowp s.p (i*sz) sz=some r:=by
 obtain⟨a,u,w⟩:=h.at_ i r f;rw[u];exact w
theorem Ad.base{V:Mem}{s:Sl}{sz:Nat}{rows:List (List Value)}(h:Ad V s sz rows){i:Nat}(hi:i<rows.length):s.p.isNone=false:=by
 obtain⟨a,f,_⟩:=h.at_ i _ (yu hi);rw[f];rfl
def vI(n:Int):Value:=.int .i64 n
def vS(s:KB):Value:=.string s
inductive E where
 |mk (op n:Int) (s:KB) (l:Sl) (k:List E)
def E.op:E->Int|.mk o _ _ _ _=>o
def E.n:E->Int|.mk _ n _ _ _=>n
def E.s:E->KB|.mk _ _ s _ _=>s
def E.l:E->Sl|.mk _ _ _ l _=>l
def E.k:E->List E|.mk _ _ _ _ k=>k
def E.row(e:E):List Value:=[vI e.op,vI e.n,vS e.s,e.l.v]
def E.v(e:E):Value:=.agg e.row.toArray
inductive E.Ok (V:Mem):E->Prop where
 |mk {op n:Int} {s:KB} {l:Sl} {k:List E} (h:Ad V l 4 (k.map E.row)) (hk:∀x∈k,E.Ok V x) (ho:yr.min<=op/\op<=yr.max) (hn:yr.min<=n/\n<=yr.max):E.Ok V (.mk op n s l k)
theorem E.Ok.sub{V V':Mem}(f:V.sub V'):∀{e:E},E.Ok V e->E.Ok V' e:=by
 intro e h;induction h with
 |mk h hk ho hn u=>exact .mk (h.sub f) (λx hx=>u x hx) ho hn
structure Fld where
 name:KB
 ty:KB
def Fld.row(f:Fld):List Value:=[vS f.name,vS f.ty]
structure Ty where
 name:KB
 fs:Sl
 fields:List Fld
def Ty.row(t:Ty):List Value:=[vS t.name,t.fs.v]
structure Ty.Ok (V:Mem)(t:Ty):Prop where
 fields:Ad V t.fs 2 (t.fields.map Fld.row)
inductive S where
 |mk (op:Int) (s:KB) (el:Sl) (es:List E) (ll:Sl) (ls:List S) (xl:Sl) (xs:List S)
def S.row:S->List Value|.mk op s el _ ll _ xl _=>[vI op,vS s,el.v,ll.v,xl.v]
inductive S.Ok (V:Mem):S->Prop where
 |mk {op:Int} {s:KB} {el:Sl} {es:List E} {ll:Sl} {ls:List S} {xl:Sl} {xs:List S} (he:Ad V el 4 (es.map E.row)) (hes:∀x∈es,E.Ok V x)
   (hl:Ad V ll 5 (ls.map S.row)) (hls:∀x∈ls,S.Ok V x) (hx:Ad V xl 5 (xs.map S.row)) (hxs:∀x∈xs,S.Ok V x) (ho:yr.min<=op/\op<=yr.max):S.Ok V (.mk op s el es ll ls xl xs)
theorem S.Ok.sub{V V':Mem}(f:V.sub V'):∀{e:S},S.Ok V e->S.Ok V' e:=by
 intro e h;induction h with
 |mk he hes hl hls hx hxs ho u w=>exact .mk (he.sub f) (λx hx=>(hes x hx).sub f) (hl.sub f) u (hx.sub f) w ho
section
variable(P:Program)(R:Ending->Mem->Prop)
def LoopK(f:List Value)(ks:List K)(body:Tr)(L:List (List Value->Mem->Prop))(ρ:List Value)(V:Mem):Prop:=
 ∃(I:List Value->Mem->Prop)(w:List Value->Mem->Nat),I f V/\∀xs V',Shaped ks xs->I xs V'->D P R body (L++[λz u=>I z u/\w z u<w xs V']) (ρ++xs) V'
variable{P R}
variable{L:List (List Value->Mem->Prop)}{ρ:List Value}{V:Mem}
theorem ok_int{k:IntKind}{n:Int}:(K.i k).ok (.int k n)=True:=by simp[K.ok,K.cast,Aj]
theorem ok_b{b:Bool}:K.b.ok (.bool b)=True:=by simp[K.ok,K.cast,asB]
theorem ok_s{b:KB}:K.s.ok (.string b)=True:=by simp[K.ok,K.cast,AS]
theorem ok_p{b:Option Addr}:K.p.ok (.pointer b)=True:=by simp[K.ok,K.cast,AN]
theorem ok_sl{b:Option Addr}{n c:Nat}:K.sl.ok (.slice b n c)=True:=by simp[K.ok,K.cast,AN,Es,asCap]
theorem ok_m{b:Option Nat}:K.m.ok (.map b)=True:=by simp[K.ok,K.cast,Gc]
open Classical in
theorem LoopK.rel{f:List Value}{ks:List K}{body:Tr}(I:Nat->List Value->Mem->Prop)(w:Nat)(y:I w f V)
  (round:∀n xs V',Shaped ks xs->I n xs V'->∀J:List Value->Mem->Prop,(∀m z u,m<n->I m z u->J z u)->D P R body (L++[J]) (ρ++xs) V'):LoopK P R f ks body L ρ V:=by
 let m:List Value->Mem->Nat:=λxs V'=>if h:∃n,I n xs V' then Classical.choose (JK _ h)else 0
 have hm:∀xs V' (h:∃n,I n xs V'),I (m xs V') xs V'/\∀k,I k xs V'->m xs V'<=k:=λxs V' h=>by
  grind
 refine⟨λxs V'=>∃n,I n xs V',m,⟨w,y⟩,λxs V' j q=>?_⟩;grind
theorem row_cell1{b:Nat}{v:Value}{ty:Nat}(h:V b=some (.cells #[v] ty (0,0))):V.rowp (some ⟨b,0,none⟩) 0 1=some [v]:=by
 simp[Mem.rowp,Mem.row,h,zE]
theorem tri_of{fs:List Nat}{H:Ca}(u:Dz P fs)(hm:P.follows .mixedOrders=true){f:FuncId}{fn:Func}(z:P.funcs[f]?=some fn){ps:List T}{nv:Nat}{t:Tr}(y:Gj P fs H fn ps nv=t)
  (ρ:List Value) (hn:ρ.length=nv) {args:Array Value} (w:args=(ps.map (·.ev ρ id)).toArray) (h:D P R t [] ρ V):Tri P f args V R:=by
 subst hn;exact tri_of_tree u hm z y w h
end
def K.ex:K->(Value->Prop)->Prop
 |.i k,q=>∃n:Int,q (.int k n)
 |.b,q=>∃b:Bool,q (.bool b)
 |.s,q=>∃s:KB,q (.string s)
 |.sl,q=>∃s:Sl,q (.slice s.p s.n s.c)
 |.p,q=>∃a:Option Addr,q (.pointer a)
 |.m,q=>∃m:Option Nat,q (.map m)
 |.f,q=>∃v,K.f.ok v/\q v
 |.r,q=>∃v,K.r.ok v/\q v
def K.al:K->(Value->Prop)->Prop
 |.i k,q=>∀n:Int,q (.int k n)
 |.b,q=>∀b:Bool,q (.bool b)
 |.s,q=>∀s:KB,q (.string s)
 |.sl,q=>∀s:Sl,q (.slice s.p s.n s.c)
 |.p,q=>∀a:Option Addr,q (.pointer a)
 |.m,q=>∀m:Option Nat,q (.map m)
 |.f,q=>∀v,K.f.ok v->q v
 |.r,q=>∀v,K.r.ok v->q v
def DA:List K->(List Value->Prop)->Prop
 |[],p=>p []
 |k::f,p=>k.ex λv=>DA f λvs=>p (v::vs)
def G5:List K->(List Value->Prop)->Prop
 |[],p=>p []
 |k::f,p=>k.al λv=>G5 f λvs=>p (v::vs)
theorem K.ex_ok{k:K}{q:Value->Prop}(h:k.ex q):∃v,k.ok v/\q v:=by
 cases k<;>simp only[K.ex]at h;·grind[ok_int]
 ·grind[ok_b]
 ·grind[ok_s]
 ·grind[ok_sl]
 ·grind[ok_p]
 ·grind[ok_m]
 ·exact h
 ·exact h
theorem K.al_ok{k:K}{q:Value->Prop}(h:k.al q){v:Value}(hv:k.ok v):q v:=by
 unfold K.ok at hv;cases k<;>simp only[K.al]at h<;>simp only[K.cast]at hv;·grind
 ·grind
 ·grind
 ·rw[<-hv];exact h ⟨_,_,_⟩
 ·grind
 ·grind
 ·exact h _ hv
 ·exact h _ hv
theorem DA.shaped:∀{ks:List K}{p:List Value->Prop},DA ks p->∃vs,Shaped ks vs/\p vs
 |[],_,h=>⟨[],trivial,h⟩
 |_::_,_,h=>by
  obtain⟨v,hv,h⟩:=K.ex_ok h;obtain⟨vs,f,h⟩:=DA.shaped h;exact⟨v::vs,⟨hv,f⟩,h⟩
theorem G5.shaped:∀{ks:List K}{p:List Value->Prop},G5 ks p->∀{vs},Shaped ks vs->p vs
 |[],_,h,[],_=>h
 |[],_,_,_::_,f=>f.elim
 |_::_,_,_,[],f=>f.elim
 |_::_,_,h,_::_,f=>G5.shaped (K.al_ok h f.1) f.2
def K.inR:IntKind->Int->Prop
 |.i64,x=>-9223372036854775808<=x/\x<=9223372036854775807
 |.u8,x=>0<=x/\x<=255
 |k,x=>k.min<=x/\x<=k.max
theorem K.inR_iff{k:IntKind}{x:Int}:K.inR k x↔(k.min<=x/\x<=k.max):=by
 cases k<;>exact Iff.rfl
def T.holds(ρ:List Value):T->Prop
 |.u .not x=>¬x.holds ρ
 |.u (.inr k) x=>K.inR k (Aj (x.ev ρ id))
 |.u .pnil x=>AN (x.ev ρ id)=none
 |.u .slnil x=>AN (x.ev ρ id)=none
 |.u .mnil x=>Gc (x.ev ρ id)=none
 |.u .szero x=>AS (x.ev ρ id)=ByteArray.empty
 |.b2 .lt x y=>Aj (x.ev ρ id)<Aj (y.ev ρ id)
 |.b2 .le x y=>Aj (x.ev ρ id)<=Aj (y.ev ρ id)
 |.b2 .eqi x y=>Aj (x.ev ρ id)=Aj (y.ev ρ id)
 |.b2 .eqs x y=>AS (x.ev ρ id)=AS (y.ev ρ id)
 |.b2 .and x y=>x.holds ρ/\y.holds ρ
 |.b2 .or x y=>x.holds ρ∨y.holds ρ
 |.b2 .idxok x y=>0<=Aj (y.ev ρ id)/\Aj (y.ev ρ id)<(Es (x.ev ρ id):Int)
 |.b2 .sidxok x y=>0<=Aj (y.ev ρ id)/\Aj (y.ev ρ id)<((AS (x.ev ρ id)).size:Int)
 |.c3 .bnd l h m=>0<=Aj (l.ev ρ id)/\Aj (l.ev ρ id)<=Aj (h.ev ρ id)/\Aj (h.ev ρ id)<=Aj (m.ev ρ id)
 |c=>asB (c.ev ρ id)=true
theorem T.holds_iff{ρ:List Value}:∀c:T,c.holds ρ↔asB (c.ev ρ id)=true
 |.u o x=>by
  cases o<;>simp only[T.holds,T.ev,U.ev,asB,Bool.not_eq_true',decide_eq_true_eq,T.holds_iff x,K.inR_iff,Option.isNone_iff_eq_none,<-Bool.not_eq_true]
 |.b2 o x y=>by
  cases o<;>simp only[T.holds,T.ev,B.ev,asB,decide_eq_true_eq,T.holds_iff x,T.holds_iff y,Bool.and_eq_true,Bool.or_eq_true,beq_iff_eq]
 |.c3 o x y z=>by
  cases o<;>simp only[T.holds,T.ev,C.ev,asB,decide_eq_true_eq]
 |.var _ _|.int _ _|.bool _|.str _|.und|.nilp|.nilsl|.nilm|.nilf|.nili|.box _ _|.glob _|.fn _ _|.nil|.cons _ _|.agg _|.tup _=>Iff.rfl
section
variable(P:Program)
def Bu(t:TypeId)(m key:Value)(ok:Bool)(V:Mem)(q:Value->Prop):Prop:=∀w,V.le w->∃x,(yq t m key ok).run P w=.ok x w/\q x
def Cg(t:TypeId)(m key val:Value)(V:Mem)(q:Mem->Prop):Prop:=∀w,V.le w->∃w' V',(yp t m key val).run P w=.ok () w'/\Aq V w V' w'/\q V'
def GenK(o:Op)(ty:Nat)(vals:Operand->Value)(V:Mem)(q:Value->Mem->Prop):Prop:=∀w,V.le w->∃x w' V',(execOp vals { dst:=none,op:=o,type:=ty,pos:= "",after:=#[],guard:=none}).run P w=.ok (.value x) w'/\Aq V w V' w'/\q x V'
def Nl(o:Option (List Value))(ks:List K)(q:List Value->Prop):Prop:=DA ks λvs=>o=some vs/\q vs
def As(p:Option Addr)(off:Nat)(cs:List Value)(V:Mem)(q:Mem->Prop):Prop:=
 ∃a c ty,p=some a/\V a.block=some (.cells c ty (0,0))/\a.spot=none/\a.off+off+cs.length<=c.size/\
  q (V.set a.block (.cells (c.toList.take (a.off+off)++cs++c.toList.drop (a.off+off+cs.length)).toArray ty (0,0)))
def Af(cs:List Value)(ty:Nat)(V:Mem)(q:Option Addr->Mem->Prop):Prop:=∀b,V b=none->q (some ⟨b,0,none⟩) (V.set b (.cells cs.toArray ty (0,0)))
def PanC(b:Bool)(R f:Ending->Mem->Prop):Ending->Mem->Prop:=
 match b with
 |false=>f
 |true=>λe V'=>f e V'∨∃u,e=.panicked u/\R e V'
theorem PanC.out{b:Bool}{R f:Ending->Mem->Prop}{e:Ending}{V':Mem}(h:PanC b R f e V'):f e V'∨∃u,e=.panicked u/\R e V':=by
 cases b with
 |false=>exact .inl h
 |true=>exact h
def CallT(b:Bool)(R:Ending->Mem->Prop)(f:Nat)(args:List Value)(rs:List RK)(V:Mem)(q:List Value->Mem->Prop):Prop:=
 Tri P f args.toArray V (PanC b R λe V'=>DA (rs.flatMap RK.kinds) λvs=>e=.returned (DW rs vs)/\q vs V')
def CallvT(b:Bool)(R:Ending->Mem->Prop)(fv:Value)(args:List Value)(rs:List RK)(V:Mem)(q:List Value->Mem->Prop):Prop:=
 ∃f first u,fv=.func (.func f) first u/\(∀args w,(callFunc f args).run P w=.ok (.enter f args) w)/\
   Tri P f (first++args.toArray++u) V (PanC b R λe V'=>DA (rs.flatMap RK.kinds) λvs=>e=.returned (DW rs vs)/\q vs V')
def LoopT(f:List Value)(ks:List K)(V:Mem)(q:(List Value->Mem->Prop)->List Value->Mem->Prop):Prop:=
 ∃(I:Nat->List Value->Mem->Prop)(w:Nat),I w f V/\∀n V',G5 ks λxs=>I n xs V'->∀J:List Value->Mem->Prop,(∀m ys u,m<n->I m ys u->J ys u)->q J xs V'
end
structure Lw where
 fs:List Nat:=[]
 v:Bool:=false
def DT(P:Program)(pn:Lw)(R:Ending->Mem->Prop):Tr->List (List Value->Mem->Prop)->List Value->Mem->Prop
 |.bad _ _,_,_,_=>False
 |.ret v,_,ρ,V=>R (.returned (v.ev ρ id)) V
 |.br c a b,L,ρ,V=>
  match c with
  |.u .not d=>(d.holds ρ->DT P pn R b L ρ V)/\(¬d.holds ρ->DT P pn R a L ρ V)
  |c=>(c.holds ρ->DT P pn R a L ρ V)/\(¬c.holds ρ->DT P pn R b L ρ V)
 |.need c k,L,ρ,V=>c.holds ρ/\DT P pn R k L ρ V
 |.ld base idx sz n j k,L,ρ,V=>Nl (V.rowp (AN (base.ev ρ id)) ((Aj (idx.ev ρ id)).toNat*sz) n) j λvs=>DT P pn R k L (ρ++vs) V
 |.st p q cs k,L,ρ,V=>As (AN (p.ev ρ id)) q (cs.evs ρ id) V λV'=>DT P pn R k L ρ V'
 |.pub cs ty k,L,ρ,V=>Af (cs.evs ρ id) ty V λp V'=>DT P pn R k L (ρ++[.pointer p]) V'
 |.call f args rs k,L,ρ,V=>CallT P (pn.fs.contains f) R f (args.evs ρ id) rs V λvs V'=>DT P pn R k L (ρ++vs) V'
 |.callv fv args rs k,L,ρ,V=>CallvT P pn.v R (fv.ev ρ id) (args.evs ρ id) rs V λvs V'=>DT P pn R k L (ρ++vs) V'
 |.loop z j body,L,ρ,V=>LoopT (z.evs ρ id) j V λJ xs V'=>DT P pn R body (L++[J]) (ρ++xs) V'
 |.cont G vals,L,ρ,V=>L.getD G (λ_ _=>False) (vals.evs ρ id) V
 |.gen o ty ts rs k,L,ρ,V=>
  match o with
  |.lookup t x i ok=>Bu P t (gval ts ρ x) (gval ts ρ i) ok V λx=>DA (rs.flatMap RK.kinds) λvs=>x=DW rs vs/\DT P pn R k L (ρ++vs) V
  |o=>GenK P o ty (gval ts ρ) V λx V'=>DA (rs.flatMap RK.kinds) λvs=>x=DW rs vs/\DT P pn R k L (ρ++vs) V'
 |.again p cs k,L,ρ,V=>V.rowp (AN (p.ev ρ id)) 0 (cs.evs ρ id).length=some (cs.evs ρ id)/\DT P pn R k L ρ V
 |.both a b,L,ρ,V=>DT P pn R a L ρ V/\DT P pn R b L ρ V
 |.pan v,_,ρ,V=>∃t x,v.ev ρ id=.iface t x/\R (.panicked [{v:=.iface t x,recovered:=false}]) V
 |.gens o ty ts k,L,ρ,V=>
  match o with
  |.mapUpdate t m x y|.insert t m x y=>Cg P t (gval ts ρ m) (gval ts ρ x) (gval ts ρ y) V λV'=>DT P pn R k L ρ V'
  |o=>∀w,V.le w->∃w' V',(execOp (gval ts ρ) { dst:=none,op:=o,type:=ty,pos:= "",after:=#[],guard:=none}).run P w=.ok .skip w'/\Aq V w V' w'/\DT P pn R k L ρ V'
section
variable{P:Program}{pn:Lw}{R:Ending->Mem->Prop}
theorem Df:∀(t:Tr)(L:List (List Value->Mem->Prop))(ρ:List Value)(V:Mem),DT P pn R t L ρ V->D P R t L ρ V
 |.bad _ _,_,_,_,h=>h
 |.ret v,_,ρ,V,h=>h
 |.br c a b,L,ρ,V,h=>by
  have h:(c.holds ρ->DT P pn R a L ρ V)/\(¬c.holds ρ->DT P pn R b L ρ V):=by
   simp only[DT]at h;split at h;·exact⟨λN=>h.2 N,λN=>h.1 (Classical.byContradiction λx=>N x)⟩
   ·exact h
  refine⟨λN=>Df a L ρ V (h.1 ((T.holds_iff c).2 N)),λN=>Df b L ρ V (h.2 λx=>?_)⟩;rw[T.holds_iff,N]at x;exact absurd x (by simp)
 |.need c k,L,ρ,V,h=>⟨(T.holds_iff c).1 h.1,Df k L ρ V h.2⟩
 |.ld base idx sz n A k,L,ρ,V,h=>by
  obtain⟨vs,q,u,z⟩:=DA.shaped h;exact⟨vs,u,q,Df k L _ V z⟩
 |.st p M cs k,L,ρ,V,h=>by
  obtain⟨a,c,ty,u,z,G,Y,W⟩:=h;exact⟨a,c,ty,u,z,G,Y,Df k L ρ _ W⟩
 |.pub cs ty k,L,ρ,V,h=>λb F=>Df k L _ _ (h b F)
 |.call f args rs k,L,ρ,V,h=>by
  refine Tri.mono h λe V' h=>?_;rcases h.out with h|h
  ·obtain⟨vs,q,u,z⟩:=DA.shaped h;exact .inl ⟨vs,u,q,Df k L _ _ z⟩
  ·exact .inr h
 |.callv fv args rs k,L,ρ,V,h=>by
  obtain⟨f,first,Z,u,z,h⟩:=h;refine⟨f,first,Z,u,z,Tri.mono h λe V' h=>?_⟩;rcases h.out with h|h
  ·obtain⟨vs,q,u,z⟩:=DA.shaped h;exact .inl ⟨vs,u,q,Df k L _ _ z⟩
  ·exact .inr h
 |.loop O A body,L,ρ,V,h=>by
  obtain⟨I,X,B,h⟩:=h;exact LoopK.rel I X B λn xs V' q C J K=>Df body _ _ _ (G5.shaped (h n V') q C J K)
 |.cont Q vals,L,ρ,V,h=>by
  simp only[DT,List.getD_eq_getElem?_getD]at h;cases hl:L[Q]? with
  |none=>simp_all
  |some J=>rw[hl]at h;exact⟨J,hl,h⟩
 |.gen o ty ts rs k,L,ρ,V,h=>by
  have key:∀(x:Value)(V':Mem),(DA (rs.flatMap RK.kinds) λvs=>x=DW rs vs/\DT P pn R k L (ρ++vs) V')->∃vs,x=DW rs vs/\Shaped (rs.flatMap RK.kinds) vs/\D P R k L (ρ++vs) V':=by
   intro x V' h;obtain⟨vs,q,u,z⟩:=DA.shaped h;exact⟨vs,u,q,Df k L _ _ z⟩
  have j:(GenK P o ty (gval ts ρ) V λx V'=>DA (rs.flatMap RK.kinds) λvs=>x=DW rs vs/\DT P pn R k L (ρ++vs) V')->D P R (.gen o ty ts rs k) L ρ V:=by
   intro h w hw;obtain⟨x,w',V',u,z,G⟩:=h w hw;obtain⟨vs,Y,W,h6⟩:=key x V' G;grind
  cases o;case lookup t x i ok=>
   intro w hw;obtain⟨x,u,G⟩:=h w hw;obtain⟨vs,Y,W,h6⟩:=key x V G;refine⟨x,w,V,vs,?_,Aq.refl hw,Y,W,h6⟩;simp only[execOp,zK,u,zM,zL]
  all_goals exact j h
 |.again p cs k,L,ρ,V,h=>⟨h.1,Df k L ρ V h.2⟩
 |.both a b,L,ρ,V,h=>⟨Df a L ρ V h.1,Df b L ρ V h.2⟩
 |.pan _,_,_,_,h=>h
 |.gens o ty ts k,L,ρ,V,h=>by
  have j:(∀w,V.le w->∃w' V',(execOp (gval ts ρ) { dst:=none,op:=o,type:=ty,pos:= "",after:=#[],guard:=none}).run P w=.ok .skip w'/\Aq V w V' w'/\DT P pn R k L ρ V')->D P R (.gens o ty ts k) L ρ V:=by
   intro h w hw;obtain⟨w',V',u,z,G⟩:=h w hw;exact⟨w',V',u,z,Df k L ρ V' G⟩
  have upd:∀(t:TypeId)(m x y:Value),Cg P t m x y V (λV'=>DT P pn R k L ρ V')->∀w,V.le w->∃w' V',(do yp t m x y;pure .skip:Sem Next).run P w=.ok .skip w'/\Aq V w V' w'/\DT P pn R k L ρ V':=by
   intro t m x y h w hw;obtain⟨w',V',u,z,G⟩:=h w hw;grind[zK,zM,zL]
  cases o;case mapUpdate t m x y=>exact j (upd _ _ _ _ h)
  case insert t m x y=>exact j (upd _ _ _ _ h)
  all_goals exact j h
theorem tri_dt{fs:List Nat}{H:Ca}(u:Dz P fs)(hm:P.follows .mixedOrders=true){f:FuncId}{fn:Func}(z:P.funcs[f]?=some fn){ps:List T}{nv:Nat}{t:Tr}(y:Gj P fs H fn ps nv=t)
  (ρ:List Value) (hn:ρ.length=nv) {args:List Value} (w:args=ps.map (·.ev ρ id)) {V:Mem} {q:Prop} (j:q=DT P pn R t [] ρ V) (h:q):Tri P f args.toArray V R:=by
 subst j;exact tri_of u hm z y ρ hn (by rw[w]) (Df _ _ _ _ h)
end
theorem A1.call{P:Program}{f:FuncId}{args:List Value}{V:Mem}{v:Value}(h:A1 P f args V v){q:Ending->Mem->Prop}(u:q (.returned v) V):Tri P f args.toArray V q:=
 Tri.mono h λ_ _ ⟨w,z⟩=>by simp_all
theorem A1.callv{P:Program}{f:FuncId}{first args caps:List Value}{V:Mem}{v:Value}(h:A1 P f (first++args++caps) V v){q:Ending->Mem->Prop}(u:q (.returned v) V):Tri P f (first.toArray++args.toArray++caps.toArray) V q:=by
 have e:first.toArray++args.toArray++caps.toArray=(first++args++caps).toArray:=by simp
 rw[e];exact h.call u
theorem A1.mk{P:Program}{f:FuncId}{args:List Value}{V:Mem}{v:Value}(h:Tri P f args.toArray V λe V'=>e=.returned v/\V.sub V'):A1 P f args V v:=h.forget
def LI(len:Nat)(St:Nat->List Value->Mem->Prop)(n:Nat)(xs:List Value)(V:Mem):Prop:=∃i,n=len-i/\i<=len/\St i xs V
theorem LI.next{len:Nat}{St:Nat->List Value->Mem->Prop}{J:List Value->Mem->Prop}{i:Nat}(u:∀m ys f,m<len-i->LI len St m ys f->J ys f)(hi:i<len){ys:List Value}{V:Mem}(h:St (i+1) ys V):J ys V:=
 u (len-(i+1)) ys V (by omega) ⟨i+1,rfl,hi,h⟩
theorem LI.start{len:Nat}{St:Nat->List Value->Mem->Prop}{xs:List Value}{V:Mem}(h:St 0 xs V):LI len St len xs V:=⟨0,rfl,Nat.zero_le _,h⟩
section
variable{V:Mem}
theorem E3{B:Int->Mem->(List Value->Mem->Prop)->Prop}(len:Nat)(St:Nat->Mem->Prop)(w:St 0 V)
  (step:∀(i:Nat) V1 J,i<=len->St i V1->(i<len->∀V2,St (i+1) V2->J [.int .i64 ((i:Int)+1)] V2)->B (i:Int) V1 J):
  ∃(I:Nat->List Value->Mem->Prop)(z:Nat),I z [.int .i64 0] V/\∀n V1,∀v:Int,I n [.int .i64 v] V1->∀J:List Value->Mem->Prop,(∀m ys f,m<n->I m ys f->J ys f)->B v V1 J:=by
 refine⟨LI len λi xs V=>xs=[.int .i64 i]/\St i V,len,LI.start ⟨rfl,w⟩,?_⟩;rintro n V1 v ⟨i,rfl,y,⟨⟩,j⟩ J q;exact step i V1 J y j λu V2 o=>LI.next q u ⟨rfl,o⟩
theorem AK{β:Type}{mk:β->Value}{B:β->Int->Mem->(List Value->Mem->Prop)->Prop}{b0:β}(len:Nat)(St:Nat->Mem->Prop)(z:St 0 V)
  (step:∀(i:Nat)(b:β) V1 J,i<=len->St i V1->(i<len->∀u V2,St (i+1) V2->J [mk u,.int .i64 ((i:Int)+1)] V2)->B b (i:Int) V1 J):
  ∃(I:Nat->List Value->Mem->Prop)(y:Nat),I y [mk b0,.int .i64 0] V/\∀n V1,∀b:β,∀v:Int,I n [mk b,.int .i64 v] V1->∀J:List Value->Mem->Prop,(∀m ys f,m<n->I m ys f->J ys f)->B b v V1 J:=by
 refine⟨LI len λi xs V=>∃b,xs=[mk b,.int .i64 i]/\St i V,len,LI.start ⟨b0,rfl,z⟩,?_⟩;rintro n V1 b v ⟨i,rfl,j,u,hx,q⟩ J o;simp only[yE,zk,true_and,and_true]at hx;obtain⟨-,rfl⟩:=hx;exact step i b V1 J j q λw u V2 G=>LI.next o w ⟨u,rfl,G⟩
theorem C0{β f:Type}{mk:β->Value}{mc:f->Value}{B:β->f->Int->Mem->(List Value->Mem->Prop)->Prop}{b0:β}{c0:f}(len:Nat)(St:Nat->Mem->Prop)(j:St 0 V)
  (step:∀(i:Nat)(b:β)(c:f) V1 J,i<=len->St i V1->(i<len->∀w z V2,St (i+1) V2->J [mk w,mc z,.int .i64 ((i:Int)+1)] V2)->B b c (i:Int) V1 J):
  ∃(I:Nat->List Value->Mem->Prop)(q:Nat),I q [mk b0,mc c0,.int .i64 0] V/\∀n V1,∀b:β,∀c:f,∀v:Int,I n [mk b,mc c,.int .i64 v] V1->∀J:List Value->Mem->Prop,(∀m ys u,m<n->I m ys u->J ys u)->B b c v V1 J:=by
 refine⟨LI len λi xs V=>∃b c,xs=[mk b,mc c,.int .i64 i]/\St i V,len,LI.start ⟨b0,c0,rfl,j⟩,?_⟩;rintro n V1 b c v ⟨i,rfl,o,w,z,hx,G⟩ J N;simp only[yE,zk,true_and,and_true]at hx;obtain⟨-,-,rfl⟩:=hx;exact step i b c V1 J o G λy w z V2 Z=>LI.next N y ⟨w,z,rfl,Z⟩
theorem DB{β:Type}{mk:β->Value}{B:β->Int->Mem->(List Value->Mem->Prop)->Prop}{b0:β}(inj:∀x y,mk x=mk y->x=y)(len:Nat)(St:Nat->β->Mem->Prop)(z:St 0 b0 V)
  (step:∀(i:Nat)(b:β) V1 J,i<=len->St i b V1->(i<len->∀f V2,St (i+1) f V2->J [mk f,.int .i64 ((i:Int)+1)] V2)->B b (i:Int) V1 J):
  ∃(I:Nat->List Value->Mem->Prop)(j:Nat),I j [mk b0,.int .i64 0] V/\∀n V1,∀b:β,∀v:Int,I n [mk b,.int .i64 v] V1->∀J:List Value->Mem->Prop,(∀m ys u,m<n->I m ys u->J ys u)->B b v V1 J:=by
 refine⟨LI len λi xs V=>∃b,xs=[mk b,.int .i64 i]/\St i b V,len,LI.start ⟨b0,rfl,z⟩,?_⟩;rintro n V1 b v ⟨i,rfl,q,f,hx,o⟩ J G;simp only[yE,zk,true_and,and_true]at hx;obtain⟨N,rfl⟩:=hx;cases inj _ _ N;exact step i b V1 J q o λw f V2 Z=>LI.next G w ⟨f,rfl,Z⟩
theorem loop3s{β f:Type}{mk:β->Value}{mc:f->Value}{B:β->f->Int->Mem->(List Value->Mem->Prop)->Prop}{b0:β}{c0:f}(inj:∀x y,mk x=mk y->x=y)(len:Nat)(St:Nat->β->Mem->Prop)(q:St 0 b0 V)
  (step:∀(i:Nat)(b:β)(c:f) V1 J,i<=len->St i b V1->(i<len->∀u z V2,St (i+1) u V2->J [mk u,mc z,.int .i64 ((i:Int)+1)] V2)->B b c (i:Int) V1 J):
  ∃(I:Nat->List Value->Mem->Prop)(o:Nat),I o [mk b0,mc c0,.int .i64 0] V/\∀n V1,∀b:β,∀c:f,∀v:Int,I n [mk b,mc c,.int .i64 v] V1->∀J:List Value->Mem->Prop,(∀m ys w,m<n->I m ys w->J ys w)->B b c v V1 J:=by
 refine⟨LI len λi xs V=>∃b c,xs=[mk b,mc c,.int .i64 i]/\St i b V,len,LI.start ⟨b0,c0,rfl,q⟩,?_⟩;rintro n V1 b c v ⟨i,rfl,G,u,z,hx,N⟩ J Z;simp only[yE,zk,true_and,and_true]at hx;obtain⟨Y,-,rfl⟩:=hx;cases inj _ _ Y;exact step i b c V1 J G N λj u z V2 W=>LI.next Z j ⟨u,z,rfl,W⟩
theorem AT:∀x y:Sl,Value.slice x.p x.n x.c=Value.slice y.p y.n y.c->x=y:=by
 rintro⟨_,_,_⟩ ⟨_,_,_⟩ h;cases h;rfl
theorem BG:∀x y:Int,Value.int .i64 x=Value.int .i64 y->x=y:=by simp_all
theorem inj_s:∀x y:KB,yo x=yo y->x=y:=by simp_all
end
section
variable{α:Type}{V:Mem}{s:Sl}{sz:Nat}{row:α->List Value}{xs:List α}
theorem Ad.n_eq(h:Ad V s sz (xs.map row)):s.n=xs.length:=by simpa using h.len
theorem Ad.get(h:Ad V s sz (xs.map row)){i:Nat}(hi:(i:Int)<(s.n:Int)):
  ∃x,x∈xs/\xs[i]?=some x/\xs.drop i=x::xs.drop (i+1)/\i<xs.length/\¬(s.p=none)/\(0:Int)<=(i:Int)/\V.rowp s.p (i*sz) sz=some (row x):=by
 have hn:=h.n_eq;have f:i<xs.length:=by omega
 have u:(xs.map row)[i]?=some (row xs[i]):=by simp[f]
 refine⟨xs[i],yn _,yu f,by simp,f,λe=>?_,by omega,h.rowp u⟩;have:=h.base (i:=i) (by simpa using f);simp_all
theorem Ad.at_get(h:Ad V s sz (xs.map row)){i:Nat}{x:α}(hx:xs[i]?=some x):V.rowp s.p (i*sz) sz=some (row x):=h.rowp (by simp[hx])
theorem Ad.done(h:Ad V s sz (xs.map row)){i:Nat}(hi:¬((i:Int)<(s.n:Int))):xs.drop i=[]/\xs.length<=i:=by
 have hn:=h.n_eq;simp_all
theorem Ad.succ(h:Ad V s sz (xs.map row)){i:Nat}(hi:(i:Int)<(s.n:Int)):K.inR .i64 ((i:Int)+1):=by
 have:=h.cap;have:=h.fit;exact⟨by omega,by omega⟩
theorem Ad.nil{V:Mem}{sz:Nat}:Ad V ⟨none,0,0⟩ sz []:=⟨rfl,Nat.le_refl _,by simp,by simp,by simp⟩
end
theorem Mem.sub_new{V:Mem}{b:Nat}(f:V b=none)(o:Obj):V.sub (V.set b o):=(Mem.sub.refl V).set f o
theorem Mem.set_set(V:Mem)(b:Nat)(x y:Obj):(V.set b x).set b y=V.set b y:=by grind[Mem.set]
theorem Mem.set_comm(V:Mem){b c:Nat}(h:b≠c)(x y:Obj):(V.set b x).set c y=(V.set c y).set b x:=by
 grind[Mem.set]
theorem Mem.set_eq{V:Mem}{b:Nat}{o:Obj}(h:V b=some o):V.set b o=V:=by
 grind[Mem.set]
abbrev cell(v:Value)(t:Nat):Obj:=.cells #[v] t (0,0)
theorem As.cell{V:Mem}{b:Nat}{v f:Value}{t:Nat}{q:Mem->Prop}(h:V b=some (cell f t))(u:q (V.set b (Sx.cell v t))):As (some ⟨b,0,none⟩) 0 [v] V q:=
 ⟨⟨b,0,none⟩,#[f],t,rfl,h,rfl,by simp,by simpa using u⟩
theorem As.at_{V:Mem}{b:Nat}{c:Array Value}{t off:Nat}{vs:List Value}{q:Mem->Prop}(h:V b=some (.cells c t (0,0)))(hl:off+vs.length<=c.size)
  (f:q (V.set b (.cells (c.toList.take off++vs++c.toList.drop (off+vs.length)).toArray t (0,0)))):As (some ⟨b,0,none⟩) off vs V q:=
 ⟨⟨b,0,none⟩,c,t,rfl,h,rfl,by simpa using hl,by simpa using f⟩
theorem An{V:Mem}{b:Nat}{c:Array Value}{t:Nat}{fr:Nat×Nat}(h:V b=some (.cells c t fr))(off n:Nat)(hl:off+n<=c.size):V.rowp (some ⟨b,0,none⟩) off n=some ((c.toList.drop off).take n):=by
 have e:(⟨b,0,none⟩:Addr).add off=⟨b,off,none⟩:=by grind[zE]
 simp only[Mem.rowp,Mem.row,e,h];rw[if_pos ⟨rfl,hl⟩]
theorem Ax{V:Mem}{b:Nat}{v:Value}{t:Nat}(h:V b=some (cell v t)):V.rowp (some ⟨b,0,none⟩) 0 1=some [v]:=row_cell1 h
/-! Maps with strings as keys. -/
def Ey(es:List MapEntry)(k:KB):Option Value:=(es.find? λe=>decide (AS e.key=k)).map (·.val)
structure A5 (V:Mem)(b:Nat)(m:KB->Option Value):Prop where
 at_:∃es clock,V b=some (.map es clock)/\(∀e∈es.toList,∃s,e.key=.string s)/\∀k,Ey es.toList k=m k
theorem A5.sub{V V':Mem}{b:Nat}{m:KB->Option Value}(h:A5 V b m)(f:V.sub V'):A5 V' b m:=by
 obtain⟨es,c,u,w,z⟩:=h.at_;exact⟨es,c,f _ _ u,w,z⟩
theorem A5.set{V:Mem}{b c:Nat}{o:Obj}{m:KB->Option Value}(h:A5 V b m)(hn:b≠c):A5 (V.set c o) b m:=by
 obtain⟨es,c,f,u,w⟩:=h.at_;exact⟨es,c,by rw[Mem.set_ne hn];exact f,u,w⟩
theorem A5.made(V:Mem)(b:Nat):A5 (V.set b (.map #[] 0)) b λ_=>none:=
 ⟨#[],0,Mem.set_same _ _ _,by simp,by simp[Ey]⟩
theorem A5.congr{V:Mem}{b:Nat}{m m':KB->Option Value}(h:A5 V b m)(e:∀k,m k=m' k):A5 V b m':=by
 obtain⟨es,c,f,u,w⟩:=h.at_;exact⟨es,c,f,u,λk=>(w k).trans (e k)⟩
theorem Lx(k:KB):∀(es:List MapEntry)(i:Nat),(∀e∈es,∃s,e.key=.string s)->
  ym .string (.string k) es i=some ((es.findIdx? λe=>decide (AS e.key=k)).bind λj=>(es[j]?).map λe=>(i+j,e.val))
 |[],_,_=>rfl
 |e::es,i,h=>by
  obtain⟨s,y⟩:=h e (by simp);have z:=Lx k es (i+1) λx hx=>h x (by simp[hx]);unfold ym;simp only[y,Instr.sameNow,yl];generalize o:(λe:MapEntry=>decide (AS e.key=k))=f at z⊢;have q:f e=decide (s=k):=by grind[AS]
  rw[show(decide (AS (yo s)=k))=decide (s=k)from rfl];by_cases hk:k=s
  ·subst hk;have u:(k==k)=true:=(yk _ _).2 rfl;simp[u]
  ·have w:¬s=k:=λe=>hk e.symm;have u:(k==s)=false:=by
    grind[absurd,yk]
   simp only[u,w,decide_false,zN,if_false,z];cases J:yj f es with
   |none=>simp
   |some j=>grind
theorem JM(k:KB):∀es:List MapEntry,Ey es k=(es.findIdx? λe=>decide (AS e.key=k)).bind λj=>(es[j]?).map (·.val)
 |[]=>rfl
 |e::es=>by
  have f:=JM k es;unfold Ey at f⊢;simp only[List.find?_cons,yl];by_cases hk:AS e.key=k;·simp[hk]
  ·simp only[hk,decide_false,zN,if_false,f];cases u:yj (λe=>decide (AS e.key=k)) es<;>simp
theorem JN{P:Program}{kt:TypeId}(hk:P.underlying kt=some .string)(k:KB)(es:List MapEntry)(h:∀e∈es,∃s,e.key=.string s)(w:World):
  (yi kt (.string k) es).run P w=.ok ((es.findIdx? λe=>decide (AS e.key=k)).bind λj=>(es[j]?).map λe=>(j,e.val)) w:=by
 simp_all[yi,zK,run_underlying,zL,Lx,Nat.zero_add]
theorem JO{P:Program}{kt:TypeId}(hk:P.underlying kt=some .string)(b:Bool)(k:KB)(w:World):(yh b 10000 kt (.string k)).run P w=.ok () w:=by
 unfold yh;simp only[zK,run_underlying hk,zL];rfl
section
variable{P:Program}{t kt et:TypeId}
theorem Bu.str{V:Mem}{b:Nat}{m:KB->Option Value}(f:P.underlying t=some (.map kt et))(hk:P.underlying kt=some .string){z:Value}(G:∀w,(zeroValue et).run P w=.ok z w)
  (hm:A5 V b m) {k:KB} {q:Value->Prop} (u:q (.tuple #[(m k).getD z,.bool (m k).isSome])):Bu P t (.map (some b)) (.string k) true V q:=by
 intro w hw;obtain⟨es,c,y,o,J⟩:=hm.at_;refine⟨_,?_,u⟩;unfold yq;simp only[zK,run_underlying f,zL,yg (hw _ _ y),zM,JO hk,JN hk k _ o];rw[<-J k,JM];cases N:yj (λe=>decide (AS e.key=k)) es.toList with
 |none=>simp_all
 |some j=>
  grind[yf,zM,yu,yT]
theorem Bu.str1{V:Mem}{b:Nat}{m:KB->Option Value}(f:P.underlying t=some (.map kt et))(hk:P.underlying kt=some .string){z:Value}(G:∀w,(zeroValue et).run P w=.ok z w)
  (hm:A5 V b m) {k:KB} {q:Value->Prop} (u:q ((m k).getD z)):Bu P t (.map (some b)) (.string k) false V q:=by
 intro w hw;obtain⟨es,c,y,o,J⟩:=hm.at_;refine⟨_,?_,u⟩;unfold yq;simp only[zK,run_underlying f,zL,yg (hw _ _ y),zM,JO hk,JN hk k _ o];rw[<-J k,JM];cases N:yj (λe=>decide (AS e.key=k)) es.toList with
 |none=>simp_all
 |some j=>
  grind[yf,zM,yu,yT]
end
theorem Aq.put{V:Mem}{w:World}(hw:V.le w){b:Nat}{o u:Obj}(z:V b=some o):Aq V w (V.set b u) {w with heap:=w.heap.setIfInBounds b u}:=by
 have y:b<w.heap.size:=(yA.1 (hw b o z)).1;refine⟨by simp,λc x f=>?_,λc f hn=>?_,λc f=>?_,rfl,rfl⟩
 ·unfold Mem.set at f;split at f;·simp_all
  ·rename_i e;rw[Array.getElem?_setIfInBounds_ne (λh=>e h.symm)];exact hw c x f
 ·grind
 grind[Mem.set]
theorem asS_string(k:KB):AS (.string k)=k:=rfl
theorem lookE_push(es:List MapEntry)(k:KB)(val:Value)(c:Nat)(h:es.findIdx? (λe=>decide (AS e.key=k))=none)(x:KB):Ey (es++[{key:=.string k,val:=val,born:=c}]) x=if x=k then some val else Ey es x:=by
 grind[Ey,AS]
theorem Ly(k:KB)(val:Value):∀(es:List MapEntry)(i:Nat) (h:es.findIdx? (λe=>decide (AS e.key=k))=some i) (x:KB),Ey (es.modify i λe=>{e with key:=.string k,val:=val}) x=if x=k then some val else Ey es x
 |[],_,h,_=>by simp at h
 |e::es,i,h,x=>by
  rw[yl]at h;by_cases hk:AS e.key=k
  ·simp only[hk,decide_true,if_true,zF]at h;grind[Ey,asS_string]
  ·simp only[hk,decide_false,zN,if_false,zi]at h;obtain⟨j,f,rfl⟩:=h;have u:=Ly k val es j f x;grind[Ey,AS]
theorem Cg.str{P:Program}{t kt et:TypeId}{V:Mem}{b:Nat}{m:KB->Option Value}(W:P.underlying t=some (.map kt et))(hk:P.underlying kt=some .string)
  (hm:A5 V b m) {k:KB} {val:Value} {q:Mem->Prop} (N:∀o,A5 (V.set b o) b (λx=>if x=k then some val else m x)->q (V.set b o)):Cg P t (.map (some b)) (.string k) val V q:=by
 intro w hw;obtain⟨es,c,u,Z,I⟩:=hm.at_;have f:(yp t (.map (some b)) (.string k) val).run P w=
   (match es.toList.findIdx? (λe=>decide (AS e.key=k))with
   |some i=>(setObj b (.map (es.modify i λe=>{e with key:=.string k,val:=val}) c)).run P w
   |none=>(setObj b (.map (es.push {key:=.string k,val:=val,born:=c}) (c+1))).run P w):=by
  unfold yp;simp only[zK,run_underlying W,zL,yg (hw _ _ u),JO hk,JN hk k _ Z];cases y:yj (λe=>decide (AS e.key=k)) es.toList with
  |none=>rfl
  |some j=>
   have Q:=(yf.1 y);obtain⟨J,z,_⟩:=Q;obtain⟨s,O⟩:=Z es.toList[j] (yn _);have G:s=k:=of_decide_eq_true (by rw[O]at z;exact z);subst G;have A:j<es.size:=by simpa using J
   have Y:(es[j]?).map (·.key)=some (.string s):=by
    simp_all
   have M:(s==s)=true:=(yk _ _).2 rfl;grind[Instr.keyThatStays,Instr.sameBits]
 cases y:yj (λe=>decide (AS e.key=k)) es.toList with
 |none=>
  rw[y]at f;refine⟨_,V.set b (.map (es.push {key:=.string k,val:=val,born:=c}) (c+1)),f.trans (ye _ (hw _ _ u)),Aq.put hw u,N _ ⟨_,_,Mem.set_same _ _ _,?_,λx=>?_⟩⟩;·grind
  grind[Array.toList_push,lookE_push]
 |some j=>
  rw[y]at f;refine⟨_,V.set b (.map (es.modify j λe=>{e with key:=.string k,val:=val}) c),f.trans (ye _ (hw _ _ u)),Aq.put hw u,N _ ⟨_,_,Mem.set_same _ _ _,?_,λx=>?_⟩⟩
  ·intro e he;rw[yd]at he;obtain⟨i,F,rfl⟩:=yc.1 he;rw[List.getElem_modify];split;·grind
   simp_all
  simp_all[yd,Ly]
/-! Appends. -/
structure Own (V0 V:Mem)(e:TypeId)(sz:Nat)(s:Sl)(vs:List Value):Prop where
 sub:V0.sub V
 len:vs.length=s.n*sz
 at_:(s.n=0/\s.c=0/\vs=[])∨∃g cur,s.p=some ⟨g,0,none⟩/\V0 g=none/\V g=some (.cells cur e (0,0))/\s.n<=s.c/\s.c<=maxLen/\cur.size=s.c*sz/\cur.toList.take (s.n*sz)=vs
theorem Own.nil{V0 V:Mem}(h:V0.sub V)(e:TypeId)(sz:Nat):Own V0 V e sz ⟨none,0,0⟩ []:=⟨h,by simp,.inl ⟨rfl,rfl,rfl⟩⟩
theorem Own.empty{V0 V:Mem}(h:V0.sub V)(e:TypeId)(sz:Nat)(p:Option Addr):Own V0 V e sz ⟨p,0,0⟩ []:=⟨h,by simp,.inl ⟨rfl,rfl,rfl⟩⟩
theorem Own.new{V0 V:Mem}{e:TypeId}{sz:Nat}{s:Sl}{vs:List Value}(h:Own V0 V e sz s vs){b:Nat}(u:V b=none)(o:Obj):Own V0 (V.set b o) e sz s vs:=by
 refine⟨Mem.sub.new h.sub u o,h.len,?_⟩;rcases h.at_ with f|⟨g,cur,f,w,z,y⟩;·exact .inl f
 grind[inr,Mem.set_ne]
theorem JP{α:Type}{sz:Nat}{row:α->List Value}(f:∀x,(row x).length=sz):∀xs:List α,(xs.flatMap row).length=xs.length*sz
 |[]=>by simp
 |x::xs=>by rw[yb,zw,f,JP f xs,zy,ya];omega
theorem JQ{α:Type}{sz:Nat}{row:α->List Value}(f:∀x,(row x).length=sz):∀(xs:List α)(i:Nat)(x:α),xs[i]?=some x->((xs.flatMap row).drop (i*sz)).take sz=row x
 |[],_,_,h=>by simp at h
 |y::xs,0,x,h=>by
  simp_all
 |y::xs,i+1,x,h=>by
  rw[List.getElem?_cons_succ]at h;rw[yb,show(i+1)*sz=(row y).length+i*sz by rw[f,ya];omega,List.drop_append,Nat.add_sub_cancel_left,List.drop_eq_nil_of_le (by omega),List.nil_append];exact JQ f xs i x h
theorem Own.n_eq{α:Type}{V0 V:Mem}{e:TypeId}{sz:Nat}{s:Sl}{row:α->List Value}{xs:List α}(h:Own V0 V e sz s (xs.flatMap row))(f:∀x,(row x).length=sz)(u:0<sz):s.n=xs.length:=by
 have:=h.len;rw[JP f]at this;grind[Nat.eq_of_mul_eq_mul_right]
theorem Own.rows{α:Type}{V0 V:Mem}{e:TypeId}{sz:Nat}{s:Sl}{row:α->List Value}{xs:List α}(h:Own V0 V e sz s (xs.flatMap row))(j:∀x,(row x).length=sz)(u:0<sz):Ad V s sz (xs.map row):=by
 have hl:=h.n_eq j u;rcases h.at_ with⟨J,Q,O⟩|⟨g,cur,G,A,N,f,w,Z,z⟩
 ·have:xs=[]:=y4 (by omega);subst this;exact⟨J,by omega,by omega,by simp,by simp⟩
 ·refine⟨by simpa using hl,f,w,?_,λi r q=>⟨_,G,?_⟩⟩;·simp_all
  ·rw[y5,zi]at q;obtain⟨x,hx,rfl⟩:=q;have Y:i<xs.length:=(yv.1 hx).1;have y:(i+1)*sz<=s.n*sz:=y6 _ (by omega);have o:s.n*sz<=s.c*sz:=y6 _ f;have W:(⟨g,0,none⟩:Addr).add (i*sz)=⟨g,i*sz,none⟩:=by grind[zE]
   rw[ya,y7]at y;unfold Mem.row;simp only[W,N];rw[if_pos ⟨rfl,by omega⟩];have I:=JQ j xs i x hx;grind[List.drop_take,Nat.min_eq_left]
theorem Ad.cells{α:Type}{V:Mem}{b:Nat}{c:Array Value}{t:Nat}{fr:Nat×Nat}{sz:Nat}{row:α->List Value}{xs:List α}(h:V b=some (.cells c t fr))(u:c.toList=xs.flatMap row)(w:∀x,(row x).length=sz){n:Nat}(hn:n=xs.length)(y:xs.length<=9223372036854775807):
  Ad V ⟨some ⟨b,0,none⟩,n,n⟩ sz (xs.map row):=by
 subst hn;refine⟨by simp,Nat.le_refl _,y,?_,λi r z=>⟨_,rfl,?_⟩⟩;·simp_all
 ·rw[y5,zi]at z;obtain⟨x,hx,rfl⟩:=z;have j:i<xs.length:=(yv.1 hx).1;have q:(⟨b,0,none⟩:Addr).add (i*sz)=⟨b,i*sz,none⟩:=by grind[zE]
  have hl:c.size=xs.length*sz:=by rw[<-Array.length_toList,u,JP w]
  have f:(i+1)*sz<=xs.length*sz:=y6 _ (by omega);rw[ya,y7]at f;unfold Mem.row;simp only[q,h];rw[if_pos ⟨rfl,by omega⟩,u,JQ w xs i x hx]
theorem row_le{V:Mem}{w:World}(f:V.le w){a:Addr}{n:Nat}{vs:List Value}(h:V.row a n=some vs):vs.length=n/\∀j v,vs[j]?=some v->w.cell? (a.add j)=some v:=G4 f h
theorem Aq.new{V:Mem}{w:World}(hw:V.le w)(o:Obj):V w.heap.size=none/\Aq V w (V.set w.heap.size o) (w.drew.alloc o):=by
 have hn:V w.heap.size=none:=by
  cases h:V w.heap.size with
  |none=>rfl
  |some x=>
   have:=(yA.1 (hw _ _ h)).1;omega
 refine⟨hn,⟨by simp,λb x f=>?_,λb f _=>heap_alloc_old w.drew o b f,λb f=>?_,rfl,rfl⟩⟩
 ·unfold Mem.set at f;split at f;·rename_i e;subst e;cases f;exact heap_alloc_new w.drew o
  ·have u:=(yA.1 (hw _ _ f)).1;exact(heap_alloc_old w.drew o b u).trans (hw _ _ f)
 grind[Mem.set,inr]
theorem Aq.row{V:Mem}{w:World}(hw:V.le w){g:Nat}{cur new:Array Value}{e:TypeId}(z:V g=some (.cells cur e (0,0))):Aq V w (V.set g (.cells new e (0,0))) (w.setRow g new):=by
 have y:=hw _ _ z;refine⟨by simp,λb x f=>?_,λb f hn=>?_,λb f=>?_,rfl,rfl⟩
 ·unfold Mem.set at f;split at f;·rename_i u;subst u;cases f;exact _root_.Go.setRow_heap w b cur new e _ y
  ·rename_i u;exact(_root_.Go.setRow_other w g b _ u).trans (hw _ _ f)
 ·refine _root_.Go.setRow_other w g b _ ?_;grind
 grind[Mem.set]
theorem GenK.append{P:Program}{V0 V:Mem}{t e ty:TypeId}{i:TypeInfo}{z:Value}{sz:Nat}(X:P.underlying t=some (.slice e))(hi:P.info? e=some i)(hz:i.zero=some z)(G:i.size=sz)(C:z.cells.size=sz)(hsz:0<sz)(D:i.bytes<=65536)
  {x y:Operand} {vals:Operand->Value} {s:Sl} {a:Addr} {m c:Nat} {vs f:List Value} (hx:vals x=.slice s.p s.n s.c) (hy:vals y=.slice (some a) m c) (own:Own V0 V e sz s vs) (Q:V.row a (m*sz)=some f)
  (h1:∀u∈f,u.oneCell'=true) (O:s.n+m<=2147483648) {q:Value->Mem->Prop}
  (hq:∀s' V',Own V0 V' e sz s' (vs++f)->s'.n=s.n+m->q (.slice s'.p s'.n s'.c) V'):
  GenK P (.call {callee:=.builtin .append,args:=#[x,y],argTypes:=#[t,t]}) ty vals V q:=by
 intro w hw;subst G;obtain⟨hl,hc⟩:=row_le hw Q;have B:(s.n+m)*i.bytes<=140737488355328:=Nat.le_trans (Nat.mul_le_mul O D) (by decide);have N:∀(s':Sl)(V':Mem)(w':World),(y8 #[t,t] ty #[.slice s.p s.n s.c,.slice (some a) m c]).run P w=.ok (.slice s'.p s'.n s'.c) w'->Aq V w V' w'->Own V0 V' e i.size s' (vs++f)->s'.n=s.n+m->
   ∃v w' V',(execOp vals {dst:=none,op:=.call {callee:=.builtin .append,args:=#[x,y],argTypes:=#[t,t]},type:=ty,pos:= "",after:=#[],guard:=none}).run P w=.ok (.value v) w'/\Aq V w V' w'/\q v V':=by
  intro s' V' w' Z K ho hn;refine⟨_,w',V',?_,K,hq s' V' ho hn⟩;unfold execOp;simp only[resolve,invoke,builtin,zK,zM,zL,y9,zG,List.map_nil,hx,hy,Z]
 have J:(vs++f).length=(s.n+m)*i.size:=by rw[zw,own.len,hl,ya]
 have Y:∀old,old<s.n+m->(y8 #[t,t] ty #[.slice s.p s.n s.c,.slice (some a) m c]).run P w=
   .ok (.slice (some ⟨w.heap.size,0,none⟩) (s.n+m) (grownCap w (s.n+m) old e)) (w.drew.alloc (.cells (vs.toArray++f.toArray++xA z.cells (grownCap w (s.n+m) old e-(s.n+m))) e))->
   ∃v w' V',(execOp vals {dst:=none,op:=.call {callee:=.builtin .append,args:=#[x,y],argTypes:=#[t,t]},type:=ty,pos:= "",after:=#[],guard:=none}).run P w=.ok (.value v) w'/\Aq V w V' w'/\q v V':=by
  intro old ho Z;obtain⟨hn,K⟩:=Aq.new hw (.cells (vs.toArray++f.toArray++xA z.cells (grownCap w (s.n+m) old e-(s.n+m))) e);have T:=grownCap_ge w (s.n+m) old e;refine N ⟨_,_,_⟩ _ _ Z K ⟨Mem.sub.new own.sub hn _,J,.inr ⟨w.heap.size,_,rfl,?_,Mem.set_same _ _ _,T,grownCap_le_maxLen w _ old e (by simp only[maxLen];omega),?_,?_⟩⟩ rfl
  ·cases h0:V0 w.heap.size with
   |none=>rfl
   |some x=>rw[own.sub _ _ h0]at hn;cases hn
  ·simp only[Array.size_append,List.size_toArray,size_zeroCells,C,own.len,hl,<-ya];congr 1;show _=grownCap w (s.n+m) old e;omega
  grind
 rcases own.at_ with⟨hs,A,hv⟩|⟨g,cur,U,hg,hV,hnc,I,hcs,W⟩
 ·subst hv;by_cases hm:m=0
  ·subst hm;have hn:f=[]:=y4 (by simpa using hl);subst hn;refine N s V w ?_ (Aq.refl hw) own rfl;rw[hs,A];cases s.p with
   |none=>simp[y8,run_underlying X,sizeOf,typeInfo,hi,xB,xC,loadCells,loadCellsFrom]
   |some a'=>simp[y8,run_underlying X,sizeOf,typeInfo,hi,xB,xC,loadCells,loadCellsFrom,storeCells]
  ·refine Y 0 (by omega) ?_;rw[hs,A];cases s.p with
   |none=>
    have Z:=run_append_nil (P:=P) w t ty e i z X hi hz a m c f hl hc (by omega) (by omega) (by grind);simpa using Z
   |some a'=>
    grind[run_append_grow,growslice_fits]
 ·by_cases o:s.n+m<=s.c
  ·have M:w.heap[g]?=some (.cells cur e (0,0)):=hw _ _ hV;have hle:(s.n+m)*i.size<=s.c*i.size:=y6 _ o;have hmul:(s.n+m)*i.size=s.n*i.size+m*i.size:=ya _ _ _;have Z:=run_append_room (P:=P) w t ty e i X hi g s.n s.c cur M a m c f hl hc h1 o (by omega);refine N ⟨some ⟨g,0,none⟩,s.n+m,s.c⟩ _ _ (by rw[U];exact Z) (Aq.row hw hV) ⟨own.sub.set hg _,J,.inr ⟨g,_,rfl,hg,Mem.set_same _ _ _,o,I,?_,?_⟩⟩ rfl;·grind
   grind
  ·have F:w.ownsRow 0 e i.size (.slice s.p s.n s.c) s.n vs:=⟨own.len,.inr ⟨g,s.c,cur,by rw[U],Nat.zero_le _,hw _ _ hV,hnc,I,hcs,W⟩⟩;have holds:∀j u,vs[j]?=some u->w.cell? ((⟨g,0,none⟩:Addr).add j)=some u:=F.cells (g:=g) (by rw[U];rfl);grind[run_append_grow,growslice_fits]
theorem GenK.append_none{P:Program}{V:Mem}{t e ty:TypeId}{i:TypeInfo}(u:P.underlying t=some (.slice e))(hi:P.info? e=some i)
  {x y:Operand} {vals:Operand->Value} {s:Sl} {p:Option Addr} {c:Nat} (hx:vals x=.slice s.p s.n s.c) (z:vals y=.slice p 0 c) (f:s.n<=s.c) {q:Value->Mem->Prop} (j:q (.slice s.p s.n s.c) V):
  GenK P (.call {callee:=.builtin .append,args:=#[x,y],argTypes:=#[t,t]}) ty vals V q:=by
 intro w hw;refine⟨_,w,V,?_,Aq.refl hw,j⟩;unfold execOp;simp only[resolve,invoke,builtin,zK,zM,zL,y9,zG,List.map_nil,hx,z];cases o:s.p with
 |none=>cases p with
  |none=>simp[y8,run_underlying u,sizeOf,typeInfo,hi,xB,xC,f]
  |some b=>simp[y8,run_underlying u,sizeOf,typeInfo,hi,xB,xC,f,loadCells,loadCellsFrom]
 |some a=>cases p with
  |none=>simp[y8,run_underlying u,sizeOf,typeInfo,hi,xB,xC,f,storeCells]
  |some b=>simp[y8,run_underlying u,sizeOf,typeInfo,hi,xB,xC,f,storeCells,loadCells,loadCellsFrom]
theorem add_add(a:Addr)(m n:Nat):(a.add m).add n=a.add (m+n):=by
 grind[zE]
theorem row_append{V:Mem}{a:Addr}{m n:Nat}{w z:List Value}(u:V.row a m=some w)(f:V.row (a.add m) n=some z)(hm:0<m):V.row a (m+n)=some (w++z):=by
 have e:a.add m=⟨a.block,a.off+m,none⟩:=by grind[zE]
 rw[e]at f;unfold Mem.row at u f⊢;simp only at f;split at u
 ·rename_i c x y j;simp only[j]at f;split at u
  ·rename_i q;split at f
   ·rename_i o;simp only[zF]at u f;rw[if_pos ⟨q.1,by omega⟩,<-u,<-f,zF,List.take_add,List.drop_drop]
   ·cases f
  ·cases u
 ·cases u
theorem Ad.flat{α:Type}{V:Mem}{sz:Nat}(f:0<sz){row:α->List Value}:∀(xs:List α)(a:Addr),xs≠[]->(∀i x,xs[i]?=some x->V.row (a.add (i*sz)) sz=some (row x))->V.row a (xs.length*sz)=some (xs.flatMap row)
 |[],_,h,_=>absurd rfl h
 |x::xs,a,_,h=>by
  have u:=h 0 x rfl;rw[Nat.zero_mul,show a.add 0=a by rfl]at u;by_cases hx:xs=[];·simp_all
  ·have z:=Ad.flat f xs (a.add sz) hx λi y w=>by
    rw[add_add,show sz+i*sz=(i+1)*sz by grind];exact h (i+1) y (by simpa using w)
   simp_all[zy,ya,y7,Nat.add_comm,yb,row_append]
theorem GenK.appendS{α:Type}{P:Program}{V0 V:Mem}{t e ty:TypeId}{i:TypeInfo}{z:Value}{sz:Nat}(I:P.underlying t=some (.slice e))(hi:P.info? e=some i)(X:i.zero=some z)(o:i.size=sz)(Y:z.cells.size=sz)(J:0<sz)(W:i.bytes<=65536)
  {x y:Operand} {vals:Operand->Value} {s u:Sl} {row:α->List Value} {xs ys:List α} (hx:vals x=.slice s.p s.n s.c) (N:vals y=.slice u.p u.n u.c) (own:Own V0 V e sz s (xs.flatMap row)) (B:∀x,(row x).length=sz) (f:Ad V u sz (ys.map row))
  (C:∀x,∀u∈row x,u.oneCell'=true) (M:xs.length+ys.length<=2147483648) {q:Value->Mem->Prop}
  (F:∀s' V',Own V0 V' e sz s' ((xs++ys).flatMap row)->q (.slice s'.p s'.n s'.c) V'):
  GenK P (.call {callee:=.builtin .append,args:=#[x,y],argTypes:=#[t,t]}) ty vals V q:=by
 have hn:=f.n_eq;have D:=own.n_eq B J;by_cases G:ys=[]
 ·subst G;rw[hn]at N;refine GenK.append_none I hi hx N ?_ (F s V (by simpa using own));rcases own.at_ with⟨C,U,h3⟩|⟨g,cur,Z,hg,hV,Q,_⟩;·omega
  ·exact Q
 ·obtain⟨y0,O⟩:=List.exists_mem_of_ne_nil _ G;cases Z:u.p with
  |none=>
   obtain⟨j,K,rfl⟩:=yc.1 O;have:=f.base (i:=j) (by simpa using K);rw[Z]at this;cases this
  |some a=>
   rw[Z]at N;have w:=Ad.flat (V:=V) J ys a G λi x A=>by
    have:=f.at_get A;rw[Z]at this;exact this
   rw[<-hn]at w;refine GenK.append I hi X o Y J W hx N own w ?_ (by omega) λs' V' ho T=>F s' V' (by simp_all);grind
theorem Tri.less{P:Program}{f:FuncId}{args:Array Value}{V:Mem}{R:Ending->Mem->Prop}(h:Tri P f args V λe V'=>∃W,R e W/\W.sub V'):Tri P f args V R:=by
 intro w hw cs;obtain⟨e,w',fr,⟨V',⟨W,u,z⟩,y⟩,rest⟩:=h w hw cs;exact⟨e,w',fr,⟨W,u,y.less z⟩,rest⟩
section
variable{V:Mem}
theorem loop4s{β u f:Type}{mk:β->Value}{mc:u->Value}{md:f->Value}{B:β->u->f->Int->Mem->(List Value->Mem->Prop)->Prop}(b0:β)(c0:u)(o:f)(inj:∀x y,md x=md y->x=y)(len:Nat)(St:Nat->f->Mem->Prop)(N:St 0 o V)
  (step:∀(i:Nat)(b:β)(c:u)(d:f) V1 J,i<=len->St i d V1->(i<len->∀j q w V2,St (i+1) w V2->J [mk j,mc q,md w,.int .i64 ((i:Int)+1)] V2)->B b c d (i:Int) V1 J):
  ∃(I:Nat->List Value->Mem->Prop)(Z:Nat),I Z [mk b0,mc c0,md o,.int .i64 0] V/\∀n V1,∀b:β,∀c:u,∀d:f,∀v:Int,I n [mk b,mc c,md d,.int .i64 v] V1->∀J:List Value->Mem->Prop,(∀m ys z,m<n->I m ys z->J ys z)->B b c d v V1 J:=by
 refine⟨LI len λi xs V=>∃b c d,xs=[mk b,mc c,md d,.int .i64 i]/\St i d V,len,LI.start ⟨b0,c0,o,rfl,N⟩,?_⟩;rintro n V1 b c d v ⟨i,rfl,Y,j,q,w,hx,W⟩ J Q;simp only[yE,zk,true_and,and_true]at hx;obtain⟨-,-,O,rfl⟩:=hx;cases inj _ _ O;exact step i b c d V1 J Y W λG j q w V2 A=>LI.next Q G ⟨j,q,w,rfl,A⟩
theorem FO{β f:Type}{mk:β->Value}{mc:f->Value}{B:β->f->Int->Mem->(List Value->Mem->Prop)->Prop}(b0:β)(c0:f)(inj:∀x y,mc x=mc y->x=y)(len:Nat)(St:Nat->f->Mem->Prop)(q:St 0 c0 V)
  (step:∀(i:Nat)(b:β)(c:f) V1 J,i<=len->St i c V1->(i<len->∀z u V2,St (i+1) u V2->J [mk z,mc u,.int .i64 ((i:Int)+1)] V2)->B b c (i:Int) V1 J):
  ∃(I:Nat->List Value->Mem->Prop)(o:Nat),I o [mk b0,mc c0,.int .i64 0] V/\∀n V1,∀b:β,∀c:f,∀v:Int,I n [mk b,mc c,.int .i64 v] V1->∀J:List Value->Mem->Prop,(∀m ys w,m<n->I m ys w->J ys w)->B b c v V1 J:=by
 refine⟨LI len λi xs V=>∃b c,xs=[mk b,mc c,.int .i64 i]/\St i c V,len,LI.start ⟨b0,c0,rfl,q⟩,?_⟩;rintro n V1 b c v ⟨i,rfl,G,z,u,hx,N⟩ J Z;simp only[yE,zk,true_and,and_true]at hx;obtain⟨-,Y,rfl⟩:=hx;cases inj _ _ Y;exact step i b c V1 J G N λj z u V2 W=>LI.next Z j ⟨z,u,rfl,W⟩
end
def Fld.v(f:Fld):Value:=.agg f.row.toArray
def Ty.v(f:Ty):Value:=.agg f.row.toArray
def S.op:S->Int|.mk o _ _ _ _ _ _ _=>o
def S.s:S->KB|.mk _ s _ _ _ _ _ _=>s
def S.el:S->Sl|.mk _ _ l _ _ _ _ _=>l
def S.es:S->List E|.mk _ _ _ l _ _ _ _=>l
def S.ll:S->Sl|.mk _ _ _ _ l _ _ _=>l
def S.ls:S->List S|.mk _ _ _ _ _ l _ _=>l
def S.xl:S->Sl|.mk _ _ _ _ _ _ l _=>l
def S.xs:S->List S|.mk _ _ _ _ _ _ _ l=>l
def S.v(f:S):Value:=.agg f.row.toArray
structure Pr where
 name:KB
 ps:Sl
 params:List Fld
 result:KB
 ls:Sl
 locals:List Fld
 bs:Sl
 body:List S
def Pr.row(p:Pr):List Value:=[vS p.name,p.ps.v,vS p.result,p.ls.v,p.bs.v]
def Pr.v(f:Pr):Value:=.agg f.row.toArray
structure Pr.Ok (V:Mem)(p:Pr):Prop where
 params:Ad V p.ps 2 (p.params.map Fld.row)
 locals:Ad V p.ls 2 (p.locals.map Fld.row)
 body:Ad V p.bs 5 (p.body.map S.row)
 stmts:∀s∈p.body,S.Ok V s
structure Ms where
 name:KB
 ty:KB
 nil:Int
 x:E
def Ms.row(p:Ms):List Value:=[vS p.name,vS p.ty,vI p.nil,vI p.x.op,vI p.x.n,vS p.x.s,p.x.l.v]
def Ms.v(f:Ms):Value:=.agg f.row.toArray
structure Ms.Ok (V:Mem)(p:Ms):Prop where
 x:E.Ok V p.x
 nil:yr.min<=p.nil/\p.nil<=yr.max
structure Iv where
 name:KB
 ty:KB
 x:E
def Iv.row(p:Iv):List Value:=[vS p.name,vS p.ty,vI p.x.op,vI p.x.n,vS p.x.s,p.x.l.v]
def Iv.v(f:Iv):Value:=.agg f.row.toArray
structure Po where
 ty:KB
 x:E
def Po.row(p:Po):List Value:=[vS p.ty,vI p.x.op,vI p.x.n,vS p.x.s,p.x.l.v]
structure Bd where
 proc:KB
 x:E
def Bd.row(p:Bd):List Value:=[vS p.proc,vI p.x.op,vI p.x.n,vS p.x.s,p.x.l.v]
def Bd.v(f:Bd):Value:=.agg f.row.toArray
structure Ds where
 name:KB
 ts:Sl
 types:List Ty
 gs:Sl
 globals:List Fld
 ps:Sl
 procs:List Pr
 ms:Sl
 measures:List Ms
 is:Sl
 invs:List Iv
 qs:Sl
 pots:List Po
 bs:Sl
 bounds:List Bd
def Ds.row(d:Ds):List Value:=[vS d.name,d.ts.v,d.gs.v,d.ps.v,d.ms.v,d.is.v,d.qs.v,d.bs.v]
def Ds.v(d:Ds):Value:=.agg d.row.toArray
structure Ds.Ok (V:Mem)(d:Ds):Prop where
 types:Ad V d.ts 2 (d.types.map Ty.row)
 typesOk:∀t∈d.types,Ty.Ok V t
 globals:Ad V d.gs 2 (d.globals.map Fld.row)
 procs:Ad V d.ps 5 (d.procs.map Pr.row)
 procsOk:∀p∈d.procs,Pr.Ok V p
 measures:Ad V d.ms 7 (d.measures.map Ms.row)
 measuresOk:∀p∈d.measures,Ms.Ok V p
 invs:Ad V d.is 6 (d.invs.map Iv.row)
 invsOk:∀p∈d.invs,E.Ok V p.x
 pots:Ad V d.qs 5 (d.pots.map Po.row)
 potsOk:∀p∈d.pots,E.Ok V p.x
 bounds:Ad V d.bs 5 (d.bounds.map Bd.row)
 boundsOk:∀p∈d.bounds,E.Ok V p.x
theorem Ty.Ok.sub{V V':Mem}{t:Ty}(h:Ty.Ok V t)(f:V.sub V'):Ty.Ok V' t:=⟨h.fields.sub f⟩
theorem Pr.Ok.sub{V V':Mem}{t:Pr}(h:Pr.Ok V t)(f:V.sub V'):Pr.Ok V' t:=⟨h.params.sub f,h.locals.sub f,h.body.sub f,λs m=>S.Ok.sub f (h.stmts s m)⟩
theorem Ms.Ok.sub{V V':Mem}{t:Ms}(h:Ms.Ok V t)(f:V.sub V'):Ms.Ok V' t:=⟨h.x.sub f,h.nil⟩
theorem Ds.Ok.sub{V V':Mem}{d:Ds}(h:Ds.Ok V d)(f:V.sub V'):Ds.Ok V' d:=
 ⟨h.types.sub f,λt m=>(h.typesOk t m).sub f,h.globals.sub f,h.procs.sub f,λt m=>(h.procsOk t m).sub f,h.measures.sub f,λt m=>(h.measuresOk t m).sub f,h.invs.sub f,λt m=>(h.invsOk t m).sub f,h.pots.sub f,λt m=>(h.potsOk t m).sub f,h.bounds.sub f,λt m=>(h.boundsOk t m).sub f⟩
theorem E.Ok.rows{V:Mem}{e:E}(h:E.Ok V e):Ad V e.l 4 (e.k.map E.row):=by cases h;assumption
theorem E.Ok.kids{V:Mem}{e:E}(h:E.Ok V e):∀x∈e.k,E.Ok V x:=by cases h;assumption
theorem E.Ok.opR{V:Mem}{e:E}(h:E.Ok V e):-9223372036854775808<=e.op/\e.op<=9223372036854775807:=by cases h;assumption
theorem E.Ok.nR{V:Mem}{e:E}(h:E.Ok V e):-9223372036854775808<=e.n/\e.n<=9223372036854775807:=by cases h;assumption
theorem S.Ok.eRows{V:Mem}{e:S}(h:S.Ok V e):Ad V e.el 4 (e.es.map E.row):=by cases h;assumption
theorem S.Ok.eOk{V:Mem}{e:S}(h:S.Ok V e):∀x∈e.es,E.Ok V x:=by cases h;assumption
theorem S.Ok.lRows{V:Mem}{e:S}(h:S.Ok V e):Ad V e.ll 5 (e.ls.map S.row):=by cases h;assumption
theorem S.Ok.lOk{V:Mem}{e:S}(h:S.Ok V e):∀x∈e.ls,S.Ok V x:=by cases h;assumption
theorem S.Ok.xRows{V:Mem}{e:S}(h:S.Ok V e):Ad V e.xl 5 (e.xs.map S.row):=by cases h;assumption
theorem S.Ok.xOk{V:Mem}{e:S}(h:S.Ok V e):∀x∈e.xs,S.Ok V x:=by cases h;assumption
theorem S.row_eq(s:S):s.row=[vI s.op,vS s.s,s.el.v,s.ll.v,s.xl.v]:=by cases s;rfl
theorem E.ind{p:E->Prop}(h:∀e:E,(∀x∈e.k,p x)->p e):∀e,p e:=λe=>
 E.rec (motive_1:=p) (motive_2:=λl=>∀x∈l,p x) (λ_ _ _ _ _ f=>h _ f) (λ_ hx=>absurd hx xD) (λ_ _ u hl=>xE.2 ⟨u,hl⟩) e
theorem S.ind{p:S->Prop}(h:∀e:S,(∀x∈e.ls,p x)->(∀x∈e.xs,p x)->p e):∀e,p e:=λe=>
 S.rec (motive_1:=p) (motive_2:=λl=>∀x∈l,p x) (λ_ _ _ _ _ _ _ _ f u=>h _ f u) (λ_ hx=>absurd hx xD) (λ_ _ w hl=>xE.2 ⟨w,hl⟩) e
end Go.Sx
namespace Go.Proofs
open Go Go.Sx
abbrev uB(b:Bool):Value:=.bool b
abbrev uL(s:Sl):Value:=.slice s.p s.n s.c
abbrev uP(p:Option Addr):Value:=.pointer p
abbrev uM(m:Option Nat):Value:=.map m
abbrev uA(l:Array Value):Value:=.agg l
abbrev uI(n:Int):Value:=.int .i64 n
abbrev uS(s:KB):Value:=.string s
abbrev rV(v:Value):Ending:=.returned v
@[simp] abbrev KQ:=rV (uB false)
@[simp] abbrev KX:=rV (uB true)
abbrev rT(l:Array Value):Ending:=.returned (.tuple l)
abbrev RP:=Ending->Mem->Prop
abbrev TT:=Tri xG
abbrev Br(c a b:Prop):Prop:=(c->a)/\(¬c->b)
abbrev IR(x:Int):Prop:=K.inR .i64 x
def flatV(args:List Value):List Value:=args.flatMap λ|.agg cs=>cs.toList|v=>[v]
def Ab(l:List UInt8):KB:=⟨l.toArray⟩
def fs:List Nat:=[3,4,5,6,7,8,9,10,11,12,13,14,15,16,17,18,19,20,21,22,23,24,25,26,27,28,29,30,31,32,33,34,35,36,37,38,39,40,41,42,43,44,45,46,47,48,49,50,51,52,53,54,55,56,57,58,59,60,61,62,63,64,65,66,67,68,69,70,71,72,73,74,75,76,77,78,79,80,81,82,83,84,85,86,87,88,89,90,91,92,93,94,95,96,97,98,99,100,101,102,103,104,105,106,107,108,109,110,111,112,113,114,115,116,117,118,119,120,121,122,123,124,125,126,127,128,129,130,131,132,133,134,135,136,137,138,139,140,141,142,143,144,145,146,147,148,149,150,151,152,153,154,155,156,157,158,159,160,161,162,163,164,165,166,167,168,169,170,171,172,173,174,175,176,177,178,179,180,181,182,183,184,185,186,187,188,189,190,191,192,193,194,195,196,197,198,199,200,201,202,203,204,205,206,207,208,209,210,211,212,213,214,215,216,217,218,219,220,221,222,223,224,225,226,227,228,229,230,231,232,233,234,235,236,237,238,239,240,241,242,243,244,245,246,247,248,249,250,251,252,253,254,255,256,257,258,259,260,261,262,263,264,265,266,267,268,269,270,271,272,273,274,275,276,277,278,279,280,281,282,283,284,285,286,287,288,289,290,291,292,293,294,295,296,297,298,299,300,301,302,303,304,305,306,330]
def pans:List Nat:=[123,168,170,220,266,265,270,288,291,137,79,78,134,136,139,141,202]
theorem JR:xG.follows .mixedOrders=true:=rfl
def FP(f:Nat):Prop:=∀args w,(callFunc f args).run xG w=.ok (.enter f args) w
theorem Ac{f:Nat}{l:List Nat}(h:FP f)(k:∀g∈l,FP g):∀g∈f::l,FP g:=λg u=>by
 rcases List.mem_cons.1 u with rfl|u;·exact h
 ·exact k g u
set_option maxRecDepth 100000 in
theorem IH:Dz xG fs:=
 (Ac Tryz.call3 (Ac Tryz.call4 (Ac Tryz.call5 (Ac Tryz.call6 (Ac Tryz.call7 (Ac Tryz.call8 (Ac Tryz.call9 (Ac Tryz.call10 (Ac Tryz.call11 (Ac Tryz.call12 (Ac Tryz.call13 (Ac Tryz.call14 (Ac Tryz.call15 (Ac Tryz.call16 (Ac Tryz.call17 (Ac Tryz.call18 (Ac Tryz.call19 (Ac Tryz.call20 (Ac Tryz.call21 (Ac Tryz.call22 (Ac Tryz.call23 (Ac Tryz.call24 (Ac Tryz.call25 (Ac Tryz.call26 (Ac Tryz.call27 (Ac Tryz.call28 (Ac Tryz.call29 (Ac Tryz.call30 (Ac Tryz.call31 (Ac Tryz.call32 (Ac Tryz.call33 (Ac Tryz.call34 (Ac Tryz.call35 (Ac Tryz.call36 (Ac Tryz.call37 (Ac Tryz.call38 (Ac Tryz.call39 (Ac Tryz.call40 (Ac Tryz.call41 (Ac Tryz.call42 (Ac Tryz.call43 (Ac Tryz.call44 (Ac Tryz.call45 (Ac Tryz.call46 (Ac Tryz.call47 (Ac Tryz.call48 (Ac Tryz.call49 (Ac Tryz.call50 (Ac Tryz.call51 (Ac Tryz.call52 (Ac Tryz.call53 (Ac Tryz.call54 (Ac Tryz.call55 (Ac Tryz.call56 (Ac Tryz.call57 (Ac Tryz.call58 (Ac Tryz.call59 (Ac Tryz.call60 (Ac Tryz.call61 (Ac Tryz.call62 (Ac Tryz.call63 (Ac Tryz.call64 (Ac Tryz.call65 (Ac Tryz.call66 (Ac Tryz.call67 (Ac Tryz.call68 (Ac Tryz.call69 (Ac Tryz.call70 (Ac Tryz.call71 (Ac Tryz.call72 (Ac Tryz.call73 (Ac Tryz.call74 (Ac Tryz.call75 (Ac Tryz.call76 (Ac Tryz.call77 (Ac Tryz.call78 (Ac Tryz.call79 (Ac Tryz.call80 (Ac Tryz.call81 (Ac Tryz.call82 (Ac Tryz.call83 (Ac Tryz.call84 (Ac Tryz.call85 (Ac Tryz.call86 (Ac Tryz.call87 (Ac Tryz.call88 (Ac Tryz.call89 (Ac Tryz.call90 (Ac Tryz.call91 (Ac Tryz.call92 (Ac Tryz.call93 (Ac Tryz.call94 (Ac Tryz.call95 (Ac Tryz.call96 (Ac Tryz.call97 (Ac Tryz.call98 (Ac Tryz.call99 (Ac Tryz.call100 (Ac Tryz.call101 (Ac Tryz.call102 (Ac Tryz.call103 (Ac Tryz.call104 (Ac Tryz.call105 (Ac Tryz.call106 (Ac Tryz.call107 (Ac Tryz.call108 (Ac Tryz.call109 (Ac Tryz.call110 (Ac Tryz.call111 (Ac Tryz.call112 (Ac Tryz.call113 (Ac Tryz.call114 (Ac Tryz.call115 (Ac Tryz.call116 (Ac Tryz.call117 (Ac Tryz.call118 (Ac Tryz.call119 (Ac Tryz.call120 (Ac Tryz.call121 (Ac Tryz.call122 (Ac Tryz.call123 (Ac Tryz.call124 (Ac Tryz.call125 (Ac Tryz.call126 (Ac Tryz.call127 (Ac Tryz.call128 (Ac Tryz.call129 (Ac Tryz.call130 (Ac Tryz.call131 (Ac Tryz.call132 (Ac Tryz.call133 (Ac Tryz.call134 (Ac Tryz.call135 (Ac Tryz.call136 (Ac Tryz.call137 (Ac Tryz.call138 (Ac Tryz.call139 (Ac Tryz.call140 (Ac Tryz.call141 (Ac Tryz.call142 (Ac Tryz.call143 (Ac Tryz.call144 (Ac Tryz.call145 (Ac Tryz.call146 (Ac Tryz.call147 (Ac Tryz.call148 (Ac Tryz.call149 (Ac Tryz.call150 (Ac Tryz.call151 (Ac Tryz.call152 (Ac Tryz.call153 (Ac Tryz.call154 (Ac Tryz.call155 (Ac Tryz.call156 (Ac Tryz.call157 (Ac Tryz.call158 (Ac Tryz.call159 (Ac Tryz.call160 (Ac Tryz.call161 (Ac Tryz.call162 (Ac Tryz.call163 (Ac Tryz.call164 (Ac Tryz.call165 (Ac Tryz.call166 (Ac Tryz.call167 (Ac Tryz.call168 (Ac Tryz.call169 (Ac Tryz.call170 (Ac Tryz.call171 (Ac Tryz.call172 (Ac Tryz.call173 (Ac Tryz.call174 (Ac Tryz.call175 (Ac Tryz.call176 (Ac Tryz.call177 (Ac Tryz.call178 (Ac Tryz.call179 (Ac Tryz.call180 (Ac Tryz.call181 (Ac Tryz.call182 (Ac Tryz.call183 (Ac Tryz.call184 (Ac Tryz.call185 (Ac Tryz.call186 (Ac Tryz.call187 (Ac Tryz.call188 (Ac Tryz.call189 (Ac Tryz.call190 (Ac Tryz.call191 (Ac Tryz.call192 (Ac Tryz.call193 (Ac Tryz.call194 (Ac Tryz.call195 (Ac Tryz.call196 (Ac Tryz.call197 (Ac Tryz.call198 (Ac Tryz.call199 (Ac Tryz.call200 (Ac Tryz.call201 (Ac Tryz.call202 (Ac Tryz.call203 (Ac Tryz.call204 (Ac Tryz.call205 (Ac Tryz.call206 (Ac Tryz.call207 (Ac Tryz.call208 (Ac Tryz.call209 (Ac Tryz.call210 (Ac Tryz.call211 (Ac Tryz.call212 (Ac Tryz.call213 (Ac Tryz.call214 (Ac Tryz.call215 (Ac Tryz.call216 (Ac Tryz.call217 (Ac Tryz.call218 (Ac Tryz.call219 (Ac Tryz.call220 (Ac Tryz.call221 (Ac Tryz.call222 (Ac Tryz.call223 (Ac Tryz.call224 (Ac Tryz.call225 (Ac Tryz.call226 (Ac Tryz.call227 (Ac Tryz.call228 (Ac Tryz.call229 (Ac Tryz.call230 (Ac Tryz.call231 (Ac Tryz.call232 (Ac Tryz.call233 (Ac Tryz.call234 (Ac Tryz.call235 (Ac Tryz.call236 (Ac Tryz.call237 (Ac Tryz.call238 (Ac Tryz.call239 (Ac Tryz.call240 (Ac Tryz.call241 (Ac Tryz.call242 (Ac Tryz.call243 (Ac Tryz.call244 (Ac Tryz.call245 (Ac Tryz.call246 (Ac Tryz.call247 (Ac Tryz.call248 (Ac Tryz.call249 (Ac Tryz.call250 (Ac Tryz.call251 (Ac Tryz.call252 (Ac Tryz.call253 (Ac Tryz.call254 (Ac Tryz.call255 (Ac Tryz.call256 (Ac Tryz.call257 (Ac Tryz.call258 (Ac Tryz.call259 (Ac Tryz.call260 (Ac Tryz.call261 (Ac Tryz.call262 (Ac Tryz.call263 (Ac Tryz.call264 (Ac Tryz.call265 (Ac Tryz.call266 (Ac Tryz.call267 (Ac Tryz.call268 (Ac Tryz.call269 (Ac Tryz.call270 (Ac Tryz.call271 (Ac Tryz.call272 (Ac Tryz.call273 (Ac Tryz.call274 (Ac Tryz.call275 (Ac Tryz.call276 (Ac Tryz.call277 (Ac Tryz.call278 (Ac Tryz.call279 (Ac Tryz.call280 (Ac Tryz.call281 (Ac Tryz.call282 (Ac Tryz.call283 (Ac Tryz.call284 (Ac Tryz.call285 (Ac Tryz.call286 (Ac Tryz.call287 (Ac Tryz.call288 (Ac Tryz.call289 (Ac Tryz.call290 (Ac Tryz.call291 (Ac Tryz.call292 (Ac Tryz.call293 (Ac Tryz.call294 (Ac Tryz.call295 (Ac Tryz.call296 (Ac Tryz.call297 (Ac Tryz.call298 (Ac Tryz.call299 (Ac Tryz.call300 (Ac Tryz.call301 (Ac Tryz.call302 (Ac Tryz.call303 (Ac Tryz.call304 (Ac Tryz.call305 (Ac Tryz.call306 (Ac Tryz.call330 (λ_ h=>absurd h xD))))))))))))))))))))))))))))))))))))))))))))))))))))))))))))))))))))))))))))))))))))))))))))))))))))))))))))))))))))))))))))))))))))))))))))))))))))))))))))))))))))))))))))))))))))))))))))))))))))))))))))))))))))))))))))))))))))))))))))))))))))))))))))))))))))))))))))))))))))))))))))))))))))))))))))))))))
theorem Dn{f:FuncId}{fn:Func}(w:xG.funcs[f]?=some fn)(early:List Nat)(loops:List (Nat×List Nat))(pv:Bool){args:List Value}(u:args=(GV xG fn).map (·.ev (flatV args) id)){V:Mem}{R:Ending->Mem->Prop}{q:Prop}
  (z:q=DT xG ⟨pans,pv⟩ R (Gj xG fs (hintF fn early loops) fn (GV xG fn) (flatV args).length) [] (flatV args) V) (h:q):Tri xG f args.toArray V R:=
 tri_dt IH JR w rfl (flatV args) rfl u z h
theorem Ch{f:FuncId}{fn:Func}(w:xG.funcs[f]?=some fn)(early:List Nat)(loops:List (Nat×List Nat))(pv:Bool){args:List Value}(ρ:List Value)(u:args=(GV xG fn).map (·.ev ρ id)){V:Mem}{R:Ending->Mem->Prop}{q:Prop}
  (z:q=DT xG ⟨pans,pv⟩ R (Gj xG fs (hintF fn early loops) fn (GV xG fn) ρ.length) [] ρ V) (h:q):Tri xG f args.toArray V R:=
 tri_dt IH JR w rfl ρ rfl u z h
def hK(n:Nat):Ca:={N:=0,early:=[],loops:=[],keep:=List.range n}
abbrev Ix(s:Sl)(i:Int)(q:Prop):Prop:=¬s.p=none/\0<=i/\i<(s.n:Int)/\q
abbrev TI(f:FuncId)(a:Array Value)(V:Mem)(F:Int->Mem->Prop):Prop:=TT f a V λe V1=>∃v,e=rV (uI v)/\F v V1
abbrev TB(f:FuncId)(a:Array Value)(V:Mem)(F:Bool->Mem->Prop):Prop:=TT f a V λe V1=>∃v,e=rV (uB v)/\F v V1
abbrev TS(f:FuncId)(a:Array Value)(V:Mem)(F:KB->Mem->Prop):Prop:=TT f a V λe V1=>∃v,e=rV (uS v)/\F v V1
abbrev TL(f:FuncId)(a:Array Value)(V:Mem)(F:Sl->Mem->Prop):Prop:=TT f a V λe V1=>∃v,e=rV (uL v)/\F v V1
abbrev TP(f:FuncId)(a:Array Value)(V:Mem)(F:Option Addr->Mem->Prop):Prop:=TT f a V λe V1=>∃v,e=rV (uP v)/\F v V1
abbrev LMP:=List Value->Mem->Prop
abbrev _root_.Go.KZ:=List Value->Mem->Prop
abbrev Nx(I:Nat->LMP)(n:Nat)(J:LMP):Prop:=∀m ys f,m<n->I m ys f->J ys f
abbrev Lp(a:List Value)(V:Mem)(F:(Nat->LMP)->Nat->Mem->Prop):Prop:=∃(I:Nat->LMP)(f:Nat),I f a V/\∀n V1,F I n V1
abbrev uD(a:KB)(b c d e f g h:Sl):Value:=uA #[uS a,uL b,uL c,uL d,uL e,uL f,uL g,uL h]
theorem Ae{f:FuncId}{fn:Func}{V:Mem}{R:RP}{args:List Value}(w:xG.funcs[f]?=some fn){q:Prop}(h:q)(u:args=(GV xG fn).map (·.ev (flatV args) id):=by kernel_rfl)
 (z:q=DT xG ⟨pans,false⟩ R (Gj xG fs (hintF fn [] []) fn (GV xG fn) (flatV args).length) [] (flatV args) V:=by kernel_rfl):Tri xG f args.toArray V R:=Dn w [] [] false u z h
@[simp] abbrev z0:Value:=.slice none 0 0
@[simp] abbrev Ap (i j t:Nat) (X Y:Value) (V:Mem) (F:Sl->Mem->Prop):Prop:=GenK xG (.call {callee:=(.builtin .append),args:=#[(.tmp i),(.tmp j)],argTypes:=#[t,t]}) t (gv [(i,X),(j,Y)]) V λx V2=>∃v,x=uL v/\F v V2
@[simp] abbrev N2 (a:Option Addr) (q:Prop):Prop:=¬a=none/\¬a=none/\q
@[simp] abbrev IY (V:Mem) (s:Sl) (i:Int) (F:Int->Prop):Prop:=∃v,V.rowp s.p (i.toNat*1) 1=some [uI v]/\F v
abbrev pv(b:Nat):Value:=.pointer (some ⟨b,0,none⟩)
abbrev sa(b:Nat):Option Addr:=some ⟨b,0,none⟩
abbrev OV(R:KZ):Ending->Mem->Prop:=λe V'=>∃vs:List Value,e=.returned (.tuple vs.toArray)/\R vs V'
abbrev CO(f:Nat):Prop:=∀args w,(callFunc f args).run xG w=.ok (.enter f args) w
abbrev MR:=Mem->RP->Prop
theorem Ao{V:Mem}{b:Nat}{o:Obj}:(V.set b o) b=some o:=Mem.set_same _ _ _
end Go.Proofs
