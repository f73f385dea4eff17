/- Part 6: no statement of the seat is proved here. -/
import Derived.Test.YtkebnkjegieagaaGreatDoorPq05
import Derived.OrdersIn
import Derived.OwnWalkIn
import Derived.TacticsIn
import Derived.RangeFuncNested
set_option linter.unusedVariables false
set_option linter.unusedSimpArgs false
open Go.Proofs.Tryz renaming prog->xV,underlying9->wB,underlying245->wF,f351->wX,f222->wY,f223->wZ,f298->wz,f125->wy
open List renaming mem_cons->zJ,not_mem_nil->xT,nil_append->zO,find?_cons->wE,findIdx?_cons->y5,findIdx?->y7,findIdx?_eq_some_iff_getElem->xB,getElem?_eq_getElem->yf,mem_iff_getElem->xE,map_cons->zI,all_eq_true->yK,getD_eq_getElem?_getD->wI,getElem?_map->xJ,mem_of_getElem?->xw,range'->wK,prefix_refl->yh,prefix_append->yP,zip_cons_cons->wP,lookup_cons->yH,nodup_cons->yv
open Go.Ending renaming returned->xY
open Option renaming none_or->xd,map_eq_some_iff->zn
open Bool renaming false_eq_true->zY,and_eq_true->zD,or_eq_true->yz
open Go.Sem renaming run_bind->zV,run_pure->zX
open Go.Result renaming andThen_ok->zW
open Go.MapKept renaming run_getObj_map->xA,run_setObj_map->xC
open Array renaming getElem?_eq_getElem->yw,toList_modify->xD,toList_eraseIdxIfInBounds->wG,mem_of_getElem?->wL,replicate->wM,getElem?_eq_some_iff->yN,all_eq_true'->wN,getD_eq_getD_getElem?->wx
open Go.Instr renaming mapUpdate->yc
open Int renaming toNat_natCast->wH
open Prod.mk renaming injEq->zq
open Go.Fence renaming wide->wJ
open Nat renaming le_refl->yu
open Option.some renaming injEq->zH
open Go.Code renaming wpIn->wO
open Go.Ending.returned renaming injEq->wQ
open Go.Value.tuple renaming injEq->wR
open Go.World renaming alloc_heap_new->wS,putObj_heap_other->wT,putObj_size->wU,putObj_heap_same->wW
open Go.RowKit.Below renaming heap_alloc->xq
namespace Go.Proofs
open Go Go.Sx
attribute [local irreducible] Go.Sx.Tri
def GF:Prop:=∀(V:Mem)(c:XI)(d:Ds)(body:Bool)(l:Sl)(ls:List (Sl×XX)),BL V c d->Ae V l 1 (ls.map λx=>[x.1.v])->(∀x∈ls,Ae V x.1 2 (x.2.map Fld.row))->
 Tri xV 298 #[.pointer c,.bool body,uL l] V λr V'=>∃mb,r=.returned (.agg #[.pointer c,.map (some mb),.bool body])/\V.sub V'/\V mb=none/\Bf V' mb (λk=>(BV (ls.flatMap (·.2)++d.globals) k).map Value.string)
def NewC:Prop:=∀(V:Mem)(d:Ds),Ds.Ok V d->Tri xV 125 #[d.v] V λr V'=>∃c,r=.returned (.pointer c)/\V.sub V'/\BL V' c d
section
variable{V:Mem}{d:Ds}{c:XI}
theorem JV{a b:XX}(h:NE a)(k:NE b):NE (a++b):=λf hf=>by
 rcases List.mem_append.1 hf with g|g;.exact h f g
 .exact k f g
theorem impInProc(l:GF)(h:BL V c d)(hv:Ef d){p:Pr}(hm:p∈d.procs)(z:Pr.Ok V p):Tri xV 239 #[.pointer c,p.v] V λr V'=>∃m,r=.returned (sV c m (AA d p))/\V.sub V'/\EP V' m (AA d p):=by
 refine x239 ?_;intro b hb;have g:=Mem.sub_new hb (.cells #[.slice p.ps.p p.ps.n p.ps.c,.slice p.ls.p p.ls.n p.ls.c] 23 (0,0));refine Tri.mono (l _ c d true ⟨some ⟨b,0,none⟩,2,2⟩ [(p.ps,p.params),(p.ls,p.locals)] (h.sub g) (Ae.cells (xs:=[(p.ps,p.params),(p.ls,p.locals)]) (row:=λx=>[x.1.v]) Av rfl (λ_=>rfl) rfl (by simp)) ?_) ?_
 .intro x y;simp only[zJ,xT,or_false]at y;rcases y with rfl|rfl;.exact z.params.sub g
  .exact z.locals.sub g
 .rintro _ V' ⟨mb,rfl,q,J,o⟩;refine⟨_,_,_,rfl,some mb,rfl,g.trans q,⟨mb,rfl,o.congr λk=>?_⟩,JV (JV (hv.params p hm).1 (hv.params p hm).2) hv.globals⟩;simp[AA]
theorem impInBound(y:GF)(h:BL V c d)(hv:Ef d){p:Pr}(hm:p∈d.procs)(l:Pr.Ok V p):Tri xV 243 #[.pointer c,p.v] V λr V'=>∃m,r=.returned (sV c m (DY d p))/\V.sub V'/\EP V' m (DY d p):=by
 refine x243 ?_;intro b hb;have g:=Mem.sub_new hb (.cells #[.slice p.ps.p p.ps.n p.ps.c] 23 (0,0));refine Tri.mono (y _ c d false ⟨some ⟨b,0,none⟩,1,1⟩ [(p.ps,p.params)] (h.sub g) (Ae.cells (xs:=[(p.ps,p.params)]) (row:=λx=>[x.1.v]) Av rfl (λ_=>rfl) rfl (by simp)) ?_) ?_
 .intro x z;simp only[zJ,xT,or_false]at z;rcases z with rfl;exact l.params.sub g
 .rintro _ V' ⟨mb,rfl,q,J,o⟩;refine⟨_,_,_,rfl,some mb,rfl,g.trans q,⟨mb,rfl,o.congr λk=>?_⟩,JV (hv.params p hm).1 hv.globals⟩;simp[DY]
theorem Lt(l:GF)(h:BL V c d)(hv:Ef d){t:KB}:Tri xV 241 #[.pointer c,uS t] V λr V'=>∃m,r=.returned (sV c m (AM d t))/\V.sub V'/\EP V' m (AM d t):=by
 refine x241 ?_;refine Tri.mono (l V c d false ⟨none,0,0⟩ [] h Ae.nil (by simp)) ?_;rintro _ V' ⟨mb,rfl,z,q,y⟩;refine⟨_,_,_,rfl,λg=>?_,λg=>?_⟩
 .refine⟨some mb,rfl,z,⟨mb,rfl,y.congr λk=>?_⟩,?_⟩;.grind[AM,sE]
  .unfold AM sE;rw[if_pos g];exact hv.globals
 .refine Co.str Tryz.underlying321 wB y λo p=>?_;refine⟨some mb,rfl,z.set q _,⟨mb,rfl,p.congr λk=>?_⟩,?_⟩
  .unfold AM sE;rw[if_neg g];unfold BV;simp only[List.flatMap_nil,zO,List.cons_append,wE];rw[show(⟨#[116,104,105,115]⟩:KB)=C3 from rfl];grind
  .unfold AM sE;rw[if_neg g];refine JV (λf hf=>?_) hv.globals;simp only[zJ,xT,or_false]at hf;subst hf;exact g
theorem DZ{V1:Mem}{X:XT}{s:KB}{n e:Int}(g:X=some (s,n,e))(h:V.sub V1):Af [(uS s),(uI n),(uI e)] 209 V1 λz V2=>(∃p,xY (.pointer (Aa z 0))=.returned (.pointer p)/\V.sub V2/\FltAt V2 p X):=λb hb=>by
 subst g;exact⟨some ⟨b,0,none⟩,rfl,h.trans (Mem.sub_new hb _),b,_,rfl,Mem.set_same _ _ _⟩
theorem oneT_cases(d:Ds)(l:XX)(i:Nat)(f:Fld):((l.take i).any (λg=>decide (g.name=f.name))=true/\BO d l i f=10)∨(¬(l.take i).any (λg=>decide (g.name=f.name))=true/\known d f.ty=true/\BO d l i f=0)∨(¬(l.take i).any (λg=>decide (g.name=f.name))=true/\¬known d f.ty=true/\BO d l i f=9):=by
 grind[BO,known,inr]
theorem impTypes(h:BL V c d):FltC 171 [.pointer c] V (He d):=by
 refine x171 ?_;unfold He;refine⟨h.nn,h.nn,Ai h.nn,d.ts,h.cell (i:=1) rfl,?_⟩;unfold types1;generalize W:(λi (t:Ty)=>if(d.types.take i).any (λg=>decide (g.name=t.name))=true then some ((t.name,-1,10):Flt)else none)=F1;refine AG d.types.length (λk V1=>V=V1/\Aq F1 0 d.types=Aq F1 k (d.types.drop k)) ⟨rfl,rfl⟩ ?_;rintro k b V1 J hi ⟨rfl,ha⟩ l;have q:=Mem.sub.refl V;refine⟨λhk=>?_,λhk=>?_⟩
 .obtain⟨g,hm,Z,y,hl,o,p,z⟩:=h.ok.types.get hk;rw[y]at ha;refine⟨o,p,hk,_,_,z,h.nn,h.nn,Ai h.nn,d.ts,h.cell (i:=1) rfl,(c224 h.ok.types Z).call ⟨_,rfl,λG=>DZ ?_ q,λG=>⟨h.ok.types.succ hk,l hl _ _ ⟨rfl,?_⟩⟩⟩⟩;.rw[ha,Bi (b:=(g.name,-1,10)) (by grind)];rfl
  .rw[ha,BH (by grind)]
 rw[(h.ok.types.done hk).1,Aq]at ha;rw[ha,xd];refine⟨h.nn,h.nn,Ai h.nn,d.ts,h.cell (i:=1) rfl,?_⟩;unfold types2;generalize A:(λ(_:Nat) (t:Ty)=>if Cu d t.fields≠0 then some ((t.name,-1,Cu d t.fields):Flt)else none)=F2;refine AG d.types.length (λk V1=>V=V1/\Aq F2 0 d.types=Aq F2 k (d.types.drop k)) ⟨rfl,rfl⟩ ?_;rintro k b V1 J hi ⟨rfl,ha⟩ l;refine⟨λhk=>?_,λhk=>?_⟩
 .obtain⟨g,hm,Z,y,hl,o,p,z⟩:=h.ok.types.get hk;rw[y]at ha;refine⟨o,p,hk,_,_,z,(c226 h (h.ok.typesOk g hm).fields).call ⟨_,rfl,λG=>⟨h.ok.types.succ hk,l hl _ _ ⟨rfl,?_⟩⟩,λG=>DZ ?_ q⟩⟩;.rw[ha,BH (by grind)]
  .rw[ha,Bi (b:=(g.name,-1,Cu d g.fields)) (by grind)];rfl
 rw[(h.ok.types.done hk).1,Aq]at ha;rw[ha,xd];refine⟨h.nn,h.nn,Ai h.nn,d.gs,h.cell (i:=2) rfl,?_⟩;unfold types3;generalize I:(λi (f:Fld)=>if BO d d.globals i f≠0 then some ((f.name,-1,BO d d.globals i f):Flt)else none)=F3;refine AG d.globals.length (λk V1=>V=V1/\Aq F3 0 d.globals=Aq F3 k (d.globals.drop k)) ⟨rfl,rfl⟩ ?_;rintro k b V1 J hi ⟨rfl,ha⟩ l;refine⟨λhk=>?_,λhk=>?_⟩
 .obtain⟨g,hm,Z,y,hl,o,p,z⟩:=h.ok.globals.get hk;rw[y]at ha;have Y:=oneT_cases d d.globals k g;refine⟨o,p,hk,_,_,z,h.nn,h.nn,Ai h.nn,d.gs,h.cell (i:=2) rfl,(c227 h.ok.globals Z).call ⟨_,rfl,λG=>DZ ?_ q,λG=>(c229 h).call ⟨_,rfl,λM=>⟨h.ok.globals.succ hk,l hl _ _ ⟨rfl,?_⟩⟩,λM=>DZ ?_ q⟩⟩⟩
  .rcases Y with⟨_,e⟩|⟨N,_⟩|⟨N,_⟩;.rw[ha,Bi (b:=(g.name,-1,10)) (by grind)]
   .grind
   simp_all
  .rcases Y with⟨N,_⟩|⟨_,_,e⟩|⟨_,N,_⟩;.grind
   .rw[ha,BH (by grind)]
   simp_all
  .rcases Y with⟨N,_⟩|⟨_,N,_⟩|⟨_,_,e⟩;.grind
   .grind
   .rw[ha,Bi (b:=(g.name,-1,9)) (by grind)]
 rw[(h.ok.globals.done hk).1,Aq]at ha;rw[ha];exact⟨none,rfl,q,rfl⟩
theorem impHeads(h:BL V c d)(Y:Small d):FltC 172 [.pointer c] V (F6 d):=by
 refine x172 ?_;unfold F6;refine⟨h.nn,h.nn,Ai h.nn,d.ps,h.cell (i:=3) rfl,?_⟩;generalize o:(λi (p:Pr)=>if(d.procs.take i).any (λg=>decide (g.name=p.name))=true then some ((p.name,-1,10):Flt)else if Cu d (p.params++p.locals)≠0 then some (p.name,-1,Cu d (p.params++p.locals))else if p.result≠sE/\known d p.result=false then some (p.name,-1,9)else none)=F1;refine AG d.procs.length (λk V1=>V.sub V1/\Aq F1 0 d.procs=Aq F1 k (d.procs.drop k)) ⟨Mem.sub.refl _,rfl⟩ ?_;rintro k b V1 J hi ⟨N,ha⟩ D;have q:=h.sub N;refine⟨λhk=>?_,λhk=>?_⟩
 .obtain⟨g,hm,Z,W,hl,hp,hz,G⟩:=q.ok.procs.get hk;rw[W]at ha;have K:=q.ok.procsOk g hm;have hs:=Y.2 g hm;refine⟨hp,hz,hk,_,_,_,_,_,G,h.nn,h.nn,Ai h.nn,d.ps,q.cell (i:=3) rfl,(c230 q.ok.procs Z).call ⟨_,rfl,λA=>DZ ?_ N,λA=>?_⟩⟩;.rw[ha,Bi (b:=(g.name,-1,10)) (by grind)]
  intro b1 I;have M:=Mem.sub_new I (.cells #[.slice g.ps.p g.ps.n g.ps.c,.slice g.ls.p g.ls.n g.ls.c] 23 (0,0));refine Tri.mono (concatF (l:=⟨some ⟨b1,0,none⟩,2,2⟩) (ls:=[(g.ps,g.params),(g.ls,g.locals)]) (Ae.cells (xs:=[(g.ps,g.params),(g.ls,g.locals)]) (row:=λx=>[x.1.v]) Av rfl (λ_=>rfl) rfl (by simp)) ?_ (by simp) ?_) ?_
  .intro x Z;simp only[zJ,xT,or_false]at Z;rcases Z with rfl|rfl;.exact K.params.sub M
   .exact K.locals.sub M
  .simp_all
  rintro _ V2 ⟨s',rfl,X,y⟩;have z:=N.trans (M.trans X);have B:([(g.ps,g.params),(g.ls,g.locals)]:List (Sl×XX)).flatMap (·.2)=g.params++g.locals:=by simp
  rw[B]at y;refine⟨s',rfl,(c226 (h.sub z) y).call ⟨_,rfl,λS=>?_,λS=>DZ ?_ z⟩⟩
  .have T:¬(Cu d (g.params++g.locals)≠0):=λe=>e S;refine⟨λC=>⟨q.ok.procs.succ hk,D hl _ _ ⟨z,?_⟩⟩,λC=>(c229 (h.sub z)).call ⟨_,rfl,λU=>⟨q.ok.procs.succ hk,D hl _ _ ⟨z,?_⟩⟩,λU=>DZ ?_ z⟩⟩;.rw[ha,BH (by rw[<-o];exact(if_neg A).trans ((if_neg T).trans (if_neg λe=>e.1 C)))]
   .rw[ha,BH (by grind)]
   .rw[ha,Bi (b:=(g.name,-1,9)) (by rw[<-o];exact(if_neg A).trans ((if_neg T).trans (if_pos ⟨C,eq_false_of_ne_true U⟩)))]
  .rw[ha,Bi (b:=(g.name,-1,Cu d (g.params++g.locals))) (by grind)]
 rw[(q.ok.procs.done hk).1,Aq]at ha;rw[ha];exact⟨none,rfl,N,rfl⟩
end
section
variable{V:Mem}{d:Ds}{c:XI}
theorem impForm(h:BL V c d):FltC 173 [.pointer c] V (Dn d):=by
 refine x173 ?_;unfold Dn;have q:=Mem.sub.refl V;refine⟨h.nn,h.nn,Ai h.nn,d.ms,h.cell (i:=4) rfl,?_⟩;unfold form1;generalize X:(λi (m:Ms)=>if(d.measures.take i).any (λg=>decide (g.name=m.name))=true then some ((m.name,-1,10):Flt)else if BK d m.ty=false then some (m.name,-1,9)else none)=F1;refine AG d.measures.length (λk V1=>V=V1/\Aq F1 0 d.measures=Aq F1 k (d.measures.drop k)) ⟨rfl,rfl⟩ ?_;rintro k b V1 J hi ⟨rfl,ha⟩ l;refine⟨λhk=>?_,λhk=>?_⟩
 .obtain⟨g,hm,W,y,hl,o,G,z⟩:=h.ok.measures.get hk;rw[y]at ha;refine⟨o,G,hk,_,_,_,_,_,_,_,z,h.nn,h.nn,Ai h.nn,d.ms,h.cell (i:=4) rfl,(c232 h.ok.measures W).call ⟨_,rfl,λN=>DZ ?_ q,λN=>(c234 h).call ⟨_,rfl,λZ=>⟨h.ok.measures.succ hk,l hl _ _ ⟨rfl,?_⟩⟩,λZ=>DZ ?_ q⟩⟩⟩;.rw[ha,Bi (b:=(g.name,-1,10)) (by grind)];rfl
  .rw[ha,BH (by grind)]
  .rw[ha,Bi (b:=(g.name,-1,9)) (by grind)];rfl
 rw[(h.ok.measures.done hk).1,Aq]at ha;rw[ha,xd];refine⟨h.nn,h.nn,Ai h.nn,d.is,h.cell (i:=5) rfl,?_⟩;unfold form2;generalize A:(λi (m:Iv)=>if(d.invs.take i).any (λg=>decide (g.name=m.name))=true then some ((m.name,-1,10):Flt)else if m.ty≠sE/\BK d m.ty=false then some (m.name,-1,9)else none)=F2;refine AG d.invs.length (λk V1=>V=V1/\Aq F2 0 d.invs=Aq F2 k (d.invs.drop k)) ⟨rfl,rfl⟩ ?_;rintro k b V1 J hi ⟨rfl,ha⟩ l;refine⟨λhk=>?_,λhk=>?_⟩
 .obtain⟨g,hm,W,y,hl,o,G,z⟩:=h.ok.invs.get hk;rw[y]at ha;refine⟨o,G,hk,_,_,_,_,_,_,z,h.nn,h.nn,Ai h.nn,d.is,h.cell (i:=5) rfl,(c235 h.ok.invs W).call ⟨_,rfl,λN=>DZ ?_ q,λN=>⟨λY=>⟨h.ok.invs.succ hk,l hl _ _ ⟨rfl,?_⟩⟩,λY=>(c234 h).call ⟨_,rfl,λZ=>⟨h.ok.invs.succ hk,l hl _ _ ⟨rfl,?_⟩⟩,λZ=>DZ ?_ q⟩⟩⟩⟩;.rw[ha,Bi (b:=(g.name,-1,10)) (by grind)];rfl
  .rw[ha,BH (by rw[<-A];exact(if_neg N).trans (if_neg λe=>e.1 Y))]
  .rw[ha,BH (by grind)]
  .rw[ha,Bi (b:=(g.name,-1,9)) (by rw[<-A];exact(if_neg N).trans (if_pos ⟨Y,eq_false_of_ne_true Z⟩))];rfl
 rw[(h.ok.invs.done hk).1,Aq]at ha;rw[ha,xd];refine⟨h.nn,h.nn,Ai h.nn,d.qs,h.cell (i:=6) rfl,?_⟩;unfold form3;generalize I:(λ(_:Nat) (m:Po)=>if m.ty≠sE/\BK d m.ty=false then some ((sPot,-1,9):Flt)else none)=F3;refine AG d.pots.length (λk V1=>V=V1/\Aq F3 0 d.pots=Aq F3 k (d.pots.drop k)) ⟨rfl,rfl⟩ ?_;rintro k b V1 J hi ⟨rfl,ha⟩ l;refine⟨λhk=>?_,λhk=>?_⟩
 .obtain⟨g,hm,W,y,hl,o,G,z⟩:=h.ok.pots.get hk;rw[y]at ha;refine⟨o,G,hk,_,_,_,_,_,z,λY=>⟨h.ok.pots.succ hk,l hl _ _ ⟨rfl,?_⟩⟩,λY=>(c234 h).call ⟨_,rfl,λZ=>⟨h.ok.pots.succ hk,l hl _ _ ⟨rfl,?_⟩⟩,λZ=>DZ ?_ q⟩⟩;.rw[ha,BH (by rw[<-I];exact if_neg λe=>e.1 Y)]
  .rw[ha,BH (by grind)]
  .rw[ha,Bi (b:=(sPot,-1,9)) (by rw[<-I];exact if_pos ⟨Y,eq_false_of_ne_true Z⟩)];rfl
 rw[(h.ok.pots.done hk).1,Aq]at ha;rw[ha,xd];refine⟨h.nn,h.nn,Ai h.nn,d.bs,h.cell (i:=7) rfl,?_⟩;unfold form4;generalize B:(λi (b:Bd)=>if(B6 d b.proc).isNone=true then some ((b.proc,-1,9):Flt)else if(d.bounds.take i).any (λg=>decide (g.proc=b.proc))=true then some (b.proc,-1,10)else none)=F4;refine AG d.bounds.length (λk V1=>V=V1/\Aq F4 0 d.bounds=Aq F4 k (d.bounds.drop k)) ⟨rfl,rfl⟩ ?_;rintro k b V1 J hi ⟨rfl,ha⟩ l;refine⟨λhk=>?_,λhk=>?_⟩
 .obtain⟨g,hm,W,y,hl,o,G,z⟩:=h.ok.bounds.get hk;rw[y]at ha;obtain⟨mt,C,D⟩:=h.procs;refine⟨o,G,hk,_,_,_,_,_,z,h.nn,h.nn,_,C,BE.str wF wB zero72 D ?_⟩;cases M:B6 d g.proc with
  |none=>
   refine⟨_,⟨none,0,0⟩,_,⟨none,0,0⟩,⟨none,0,0⟩,_,rfl,λh=>absurd h (by simp),λ_=>DZ ?_ q⟩;rw[ha,Bi (b:=(g.proc,-1,9)) (by grind)]
  |some p=>
   have K:¬(B6 d g.proc).isNone=true:=by rw[M];simp
   refine⟨_,p.ps,_,p.ls,p.bs,_,rfl,λ_=>⟨h.nn,h.nn,Ai h.nn,d.bs,h.cell (i:=7) rfl,(c237 h.ok.bounds W).call ⟨_,rfl,λN=>DZ ?_ q,λN=>⟨h.ok.bounds.succ hk,l hl _ _ ⟨rfl,?_⟩⟩⟩⟩,λh=>absurd rfl h⟩;.rw[ha,Bi (b:=(g.proc,-1,10)) (by grind)]
   .rw[ha,BH (by grind)]
 rw[(h.ok.bounds.done hk).1,Aq]at ha;rw[ha];exact⟨none,rfl,q,rfl⟩
theorem impBodies(B:GF)(h:BL V c d)(hv:Ef d)(C:HZ d):FltC 174 [.pointer c] V (Et d):=by
 refine x174 ?_;unfold Et;refine⟨h.nn,h.nn,Ai h.nn,d.ps,h.cell (i:=3) rfl,?_⟩;generalize D:(λ(_:Nat) (p:Pr)=>if(AN d (AA d p) p.result 0 p.body).2≠0 then some ((p.name,(AN d (AA d p) p.result 0 p.body).1,(AN d (AA d p) p.result 0 p.body).2):Flt)else none)=F1;refine AG d.procs.length (λk V1=>V.sub V1/\Aq F1 0 d.procs=Aq F1 k (d.procs.drop k)) ⟨Mem.sub.refl _,rfl⟩ ?_;rintro k b V1 J hi ⟨G,ha⟩ K;have l:=h.sub G;refine⟨λhk=>?_,λhk=>?_⟩
 .obtain⟨g,hm,U,N,hl,Z,S,q⟩:=l.ok.procs.get hk;rw[N]at ha;have Y:=l.ok.procsOk g hm;refine⟨Z,S,hk,_,_,_,_,_,q,Tri.mono (impInProc B l hv hm Y) ?_⟩;rintro _ V2 ⟨m,rfl,z,W⟩;refine⟨_,_,_,rfl,λb1 y=>?_⟩;obtain⟨A,T⟩:=C.ps g hm;have M:=Mem.sub_new y (cell (uI 0) 3);refine Tri.mono (impStmts y (l.sub z) hv W rfl g.body _ g.bs 0 1 M Av (Y.sub z).body (Y.sub z).stmts A (by omega) (by omega)) ?_;rintro _ V3 ⟨rfl,n',I,-⟩;have o:=G.trans (z.trans (I.base M y));refine⟨_,_,rfl,λX=>⟨l.ok.procs.succ hk,K hl _ _ ⟨o,?_⟩⟩,λX=>DZ ?_ o⟩;.rw[ha,BH (by grind)]
  .have:placeT (AN d (AA d g) g.result 0 g.body)=(AN d (AA d g) g.result 0 g.body).1:=if_neg X;rw[this,ha,Bi (b:=(g.name,(AN d (AA d g) g.result 0 g.body).1,(AN d (AA d g) g.result 0 g.body).2)) (by grind)]
 rw[(l.ok.procs.done hk).1,Aq]at ha;rw[ha];exact⟨none,rfl,G,rfl⟩
theorem Fa{V1:Mem}{X:XT}(h:FltAt V1 none X):X=none:=by
 cases X with
 |none=>rfl
 |some r=>obtain⟨b,t,g,_⟩:=h;cases g
theorem H3{V1:Mem}{X:XT}{p:XI}(h:FltAt V1 p X)(g:¬p=none):∃r,X=some r:=by
 cases X with
 |none=>exact absurd h g
 |some r=>grind
theorem impExps(D:GF)(h:BL V c d)(hv:Ef d)(K:HZ d)(X:Dn d=none):FltC 175 [.pointer c] V (Eu d):=by
 refine x175 ?_;unfold Eu;refine⟨h.nn,h.nn,Ai h.nn,d.ms,h.cell (i:=4) rfl,?_⟩;unfold exp1;generalize S:(λ(_:Nat) (m:Ms)=>if Ba d (AM d m.ty) m.x Ak≠0 then some ((m.name,-1,Ba d (AM d m.ty) m.x Ak):Flt)else none)=F1;refine AG d.measures.length (λk V1=>V.sub V1/\Aq F1 0 d.measures=Aq F1 k (d.measures.drop k)) ⟨Mem.sub.refl _,rfl⟩ ?_;rintro k b V1 J hi ⟨N,ha⟩ B;have y:=h.sub N;refine⟨λhk=>?_,λhk=>?_⟩
 .obtain⟨g,hm,T,Z,hl,Y,C,o⟩:=y.ok.measures.get hk;rw[Z]at ha;refine⟨Y,C,hk,_,_,_,_,_,_,_,o,Tri.mono (Lt D y hv) ?_⟩;rintro _ V2 ⟨m,rfl,l,W⟩;refine⟨_,_,_,rfl,Tri.mono (c242 (e:=g.x) (y.sub l) hv W ((y.sub l).ok.measuresOk g hm).x (K.ms g hm)) ?_⟩;rintro _ U ⟨p,rfl,A,z⟩;have G:=N.trans (l.trans A);have I:(if Ba d (AM d g.ty) g.x Ak≠0 then some ((g.name,-1,Ba d (AM d g.ty) g.x Ak):Flt)else none)=F1 k g:=by rw[<-S]
  rw[show RH=Ak from rfl]at z;rw[I]at z;refine⟨_,rfl,λhn=>?_,λhn=>?_⟩
  .subst hn;exact⟨y.ok.measures.succ hk,B hl _ _ ⟨G,by rw[ha,BH (Fa z)]⟩⟩
  .obtain⟨r,M⟩:=H3 z hn;rw[ha,Bi M];rw[M]at z;exact⟨p,rfl,G,z⟩
 rw[(y.ok.measures.done hk).1,Aq]at ha;rw[ha,xd];refine⟨h.nn,h.nn,Ai h.nn,d.is,y.cell (i:=5) rfl,?_⟩;unfold exp2;generalize hf2:(λ(_:Nat) (m:Iv)=>if Ba d (AM d m.ty) m.x Ay≠0 then some ((m.name,-1,Ba d (AM d m.ty) m.x Ay):Flt)else none)=F2;refine AG d.invs.length (λk V1=>V.sub V1/\Aq F2 0 d.invs=Aq F2 k (d.invs.drop k)) ⟨N,rfl⟩ ?_;rintro k b V1 J hi ⟨N,ha⟩ B;have y:=h.sub N;refine⟨λhk=>?_,λhk=>?_⟩
 .obtain⟨g,hm,T,Z,hl,Y,C,o⟩:=y.ok.invs.get hk;rw[Z]at ha;refine⟨Y,C,hk,_,_,_,_,_,_,o,Tri.mono (Lt D y hv) ?_⟩;rintro _ V2 ⟨m,rfl,l,W⟩;refine⟨_,_,_,rfl,Tri.mono (c242 (e:=g.x) (y.sub l) hv W ((y.sub l).ok.invsOk g hm) (K.is g hm)) ?_⟩;rintro _ U ⟨p,rfl,A,z⟩;have G:=N.trans (l.trans A);have I:(if Ba d (AM d g.ty) g.x Ay≠0 then some ((g.name,-1,Ba d (AM d g.ty) g.x Ay):Flt)else none)=F2 k g:=by rw[<-hf2]
  rw[show RG=Ay from rfl]at z;rw[I]at z;refine⟨_,rfl,λhn=>?_,λhn=>?_⟩
  .subst hn;exact⟨y.ok.invs.succ hk,B hl _ _ ⟨G,by rw[ha,BH (Fa z)]⟩⟩
  .obtain⟨r,M⟩:=H3 z hn;rw[ha,Bi M];rw[M]at z;exact⟨p,rfl,G,z⟩
 rw[(y.ok.invs.done hk).1,Aq]at ha;rw[ha,xd];refine⟨h.nn,h.nn,Ai h.nn,d.qs,y.cell (i:=6) rfl,?_⟩;unfold exp3;generalize hf3:(λ(_:Nat) (m:Po)=>if Ba d (AM d m.ty) m.x Ak≠0 then some ((sPot,-1,Ba d (AM d m.ty) m.x Ak):Flt)else none)=F3;refine AG d.pots.length (λk V1=>V.sub V1/\Aq F3 0 d.pots=Aq F3 k (d.pots.drop k)) ⟨N,rfl⟩ ?_;rintro k b V1 J hi ⟨N,ha⟩ B;have y:=h.sub N;refine⟨λhk=>?_,λhk=>?_⟩
 .obtain⟨g,hm,T,Z,hl,Y,C,o⟩:=y.ok.pots.get hk;rw[Z]at ha;refine⟨Y,C,hk,_,_,_,_,_,o,Tri.mono (Lt D y hv) ?_⟩;rintro _ V2 ⟨m,rfl,l,W⟩;refine⟨_,_,_,rfl,Tri.mono (c242 (e:=g.x) (y.sub l) hv W ((y.sub l).ok.potsOk g hm) (K.qs g hm)) ?_⟩;rintro _ U ⟨p,rfl,A,z⟩;have G:=N.trans (l.trans A);have I:(if Ba d (AM d g.ty) g.x Ak≠0 then some ((sPot,-1,Ba d (AM d g.ty) g.x Ak):Flt)else none)=F3 k g:=by rw[<-hf3]
  rw[show RH=Ak from rfl,show Ab [112,111,116,101,110,116,105,97,108]=sPot from rfl]at z;rw[I]at z;refine⟨_,rfl,λhn=>?_,λhn=>?_⟩
  .subst hn;exact⟨y.ok.pots.succ hk,B hl _ _ ⟨G,by rw[ha,BH (Fa z)]⟩⟩
  .obtain⟨r,M⟩:=H3 z hn;rw[ha,Bi M];rw[M]at z;exact⟨p,rfl,G,z⟩
 rw[(y.ok.pots.done hk).1,Aq]at ha;rw[ha,xd];refine⟨h.nn,h.nn,Ai h.nn,d.bs,y.cell (i:=7) rfl,?_⟩;have hpr:=Np X;unfold exp4;generalize hf4:(λ(_:Nat) (m:Bd)=>if Ba d (DY d ((B6 d m.proc).getD Hf)) m.x Ak≠0 then some ((m.proc,-1,Ba d (DY d ((B6 d m.proc).getD Hf)) m.x Ak):Flt)else none)=F4;refine AG d.bounds.length (λk V1=>V.sub V1/\Aq F4 0 d.bounds=Aq F4 k (d.bounds.drop k)) ⟨N,rfl⟩ ?_;rintro k b V1 J hi ⟨N,ha⟩ B;have y:=h.sub N;refine⟨λhk=>?_,λhk=>?_⟩
 .obtain⟨g,hm,T,Z,hl,Y,C,o⟩:=y.ok.bounds.get hk;rw[Z]at ha;obtain⟨q,hq⟩:=hpr g hm;obtain⟨mt,q1,q2⟩:=y.procs;refine⟨Y,C,hk,_,_,_,_,_,o,h.nn,h.nn,_,q1,BE.str1 wF wB zero72 q2 ?_⟩;rw[hq];refine⟨_,q.ps,_,q.ls,q.bs,rfl,Tri.mono (impInBound D y hv (Ls hq) (y.ok.procsOk q (Ls hq))) ?_⟩;rintro _ V2 ⟨m,rfl,l,W⟩;refine⟨_,_,_,rfl,Tri.mono (c242 (e:=g.x) (y.sub l) hv W ((y.sub l).ok.boundsOk g hm) (K.bs g hm)) ?_⟩;rintro _ U ⟨p,rfl,A,z⟩;have G:=N.trans (l.trans A);have I:(if Ba d (DY d q) g.x Ak≠0 then some ((g.proc,-1,Ba d (DY d q) g.x Ak):Flt)else none)=F4 k g:=by grind
  rw[show RH=Ak from rfl]at z;rw[I]at z;refine⟨_,rfl,λhn=>?_,λhn=>?_⟩
  .subst hn;exact⟨y.ok.bounds.succ hk,B hl _ _ ⟨G,by rw[ha,BH (Fa z)]⟩⟩
  .obtain⟨r,M⟩:=H3 z hn;rw[ha,Bi M];rw[M]at z;exact⟨p,rfl,G,z⟩
 rw[(y.ok.bounds.done hk).1,Aq]at ha;rw[ha];exact⟨none,rfl,N,rfl⟩
end
theorem GenK.makeF1{P:Program}{V:Mem}{f:FuncId}{x:Operand}{ty:Nat}{vals:Operand->Value}{v:Value}(z:vals x=v){q:Value->Mem->Prop}(g:q (.func (.func f) #[v] #[]) V):GenK P (.makeFunc (.func f) #[x] #[]) ty vals V q:=by
 intro w hw;refine⟨_,w,V,?_,Ax.refl hw,g⟩;unfold execOp Instr.makeFunc;simp_all
section
variable{V:Mem}{d:Ds}{c:XI}
theorem impFirst(A:GF)(h:BL V c d)(hv:Ef d)(Z:HZ d):FltC 126 [.pointer c] V (B0 d):=by
 refine x126 ?_;have M:=λV1 (o:V.sub V1)=>impTypes (h.sub o);have B:=λV1 (o:V.sub V1)=>impHeads (h.sub o) Z.small;have C:=λV1 (o:V.sub V1)=>impForm (h.sub o);have D:=λV1 (o:V.sub V1)=>impBodies A (h.sub o) hv Z;have K:=λV1 (o:V.sub V1) (hf:Dn d=none)=>impExps A (h.sub o) hv Z hf;refine GenK.makeF1 (v:=.pointer c) rfl ⟨.func (.func 171) #[.pointer c] #[],rfl,rfl,GenK.makeF1 (v:=.pointer c) rfl ⟨.func (.func 172) #[.pointer c] #[],rfl,rfl,GenK.makeF1 (v:=.pointer c) rfl ⟨.func (.func 173) #[.pointer c] #[],rfl,rfl,GenK.makeF1 (v:=.pointer c) rfl ⟨.func (.func 174) #[.pointer c] #[],rfl,rfl,GenK.makeF1 (v:=.pointer c) rfl ⟨.func (.func 175) #[.pointer c] #[],rfl,rfl,λb hb=>?_⟩⟩⟩⟩⟩;have W:=Mem.sub_new hb (.cells #[.func (.func 171) #[.pointer c] #[],.func (.func 172) #[.pointer c] #[],.func (.func 173) #[.pointer c] #[],.func (.func 174) #[.pointer c] #[],.func (.func 175) #[.pointer c] #[]] 207 (0,0));refine AG 5 (λi V1=>V.sub V1/\V1 b=some (.cells #[.func (.func 171) #[.pointer c] #[],.func (.func 172) #[.pointer c] #[],.func (.func 173) #[.pointer c] #[],.func (.func 174) #[.pointer c] #[],.func (.func 175) #[.pointer c] #[]] 207 (0,0))/\
  ((i=0/\B0 d=(He d).or ((F6 d).or ((Dn d).or ((Et d).or (Eu d)))))∨(i=1/\B0 d=(F6 d).or ((Dn d).or ((Et d).or (Eu d))))∨(i=2/\B0 d=(Dn d).or ((Et d).or (Eu d)))∨(i=3/\Dn d=none/\B0 d=(Et d).or (Eu d))∨(i=4/\Dn d=none/\B0 d=Eu d)∨(i=5/\B0 d=none))) ⟨W,Mem.set_same _ _ _,.inl ⟨rfl,rfl⟩⟩ ?_
 rintro i U V1 J hi ⟨q,z,G⟩ N;have fin:∀{V2:Mem}{X Y:XT}{p:XI},V.sub V2->FltAt V2 p X->¬(p=none)->B0 d=X.or Y->(∃I,xY (.pointer p)=.returned (.pointer I)/\V.sub V2/\FltAt V2 I (B0 d)):=λ{V2 X Y p} o hf hn l=>by
  obtain⟨r,rfl⟩:=H3 hf hn;simp_all
 refine⟨λS=>?_,λT=>?_⟩
 .rcases G with⟨rfl,l⟩|⟨rfl,l⟩|⟨rfl,l⟩|⟨rfl,hf,l⟩|⟨rfl,hf,l⟩|⟨rfl,l⟩
  .refine⟨by simp[Aa],by omega,by omega,.func (.func 171) #[.pointer c] #[],rfl,Aj z 0 1 (by simp),_,_,_,rfl,Tryz.call171,Tri.mono (M V1 q) ?_⟩;rintro _ V2 ⟨p,rfl,g,y⟩;refine⟨_,rfl,λhn=>⟨⟨by omega,by omega⟩,N (by omega) _ _ ⟨q.trans g,g _ _ z,?_⟩⟩,λhn=>fin (q.trans g) y hn l⟩;subst hn;exact .inr (.inl ⟨rfl,by rw[l,Fa y,xd]⟩)
  .refine⟨by simp[Aa],by omega,by omega,.func (.func 172) #[.pointer c] #[],rfl,Aj z 1 1 (by simp),_,_,_,rfl,Tryz.call172,Tri.mono (B V1 q) ?_⟩;rintro _ V2 ⟨p,rfl,g,y⟩;refine⟨_,rfl,λhn=>⟨⟨by omega,by omega⟩,N (by omega) _ _ ⟨q.trans g,g _ _ z,?_⟩⟩,λhn=>fin (q.trans g) y hn l⟩;subst hn;exact .inr (.inr (.inl ⟨rfl,by rw[l,Fa y,xd]⟩))
  .refine⟨by simp[Aa],by omega,by omega,.func (.func 173) #[.pointer c] #[],rfl,Aj z 2 1 (by simp),_,_,_,rfl,Tryz.call173,Tri.mono (C V1 q) ?_⟩;rintro _ V2 ⟨p,rfl,g,y⟩;refine⟨_,rfl,λhn=>⟨⟨by omega,by omega⟩,N (by omega) _ _ ⟨q.trans g,g _ _ z,?_⟩⟩,λhn=>fin (q.trans g) y hn l⟩;subst hn;exact .inr (.inr (.inr (.inl ⟨rfl,Fa y,by rw[l,Fa y,xd]⟩)))
  .refine⟨by simp[Aa],by omega,by omega,.func (.func 174) #[.pointer c] #[],rfl,Aj z 3 1 (by simp),_,_,_,rfl,Tryz.call174,Tri.mono (D V1 q) ?_⟩;rintro _ V2 ⟨p,rfl,g,y⟩;refine⟨_,rfl,λhn=>⟨⟨by omega,by omega⟩,N (by omega) _ _ ⟨q.trans g,g _ _ z,?_⟩⟩,λhn=>fin (q.trans g) y hn l⟩;subst hn;exact .inr (.inr (.inr (.inr (.inl ⟨rfl,hf,by rw[l,Fa y,xd]⟩))))
  .refine⟨by simp[Aa],by omega,by omega,.func (.func 175) #[.pointer c] #[],rfl,Aj z 4 1 (by simp),_,_,_,rfl,Tryz.call175,Tri.mono (K V1 q hf) ?_⟩;rintro _ V2 ⟨p,rfl,g,y⟩;refine⟨_,rfl,λhn=>⟨⟨by omega,by omega⟩,N (by omega) _ _ ⟨q.trans g,g _ _ z,?_⟩⟩,λhn=>fin (Y:=none) (q.trans g) y hn (by simp_all)⟩;subst hn;exact .inr (.inr (.inr (.inr (.inr ⟨rfl,by rw[l,Fa y]⟩))))
  .omega
 .rcases G with⟨rfl,l⟩|⟨rfl,l⟩|⟨rfl,l⟩|⟨rfl,hf,l⟩|⟨rfl,hf,l⟩|⟨rfl,l⟩;.omega
  .omega
  .omega
  .omega
  .omega
  .rw[l];exact⟨none,rfl,q,rfl⟩
theorem Lu[Tab V](o:GF)(J:NewC)(y:Ds.Ok V d):PP 75 [d.v] V (if A8 d=true then f3 (B0 d)else .tuple #[uS sE,uI 0,uI 1]):=by
 refine A6.mk (PC ?_);refine(c124 y).call ⟨_,rfl,λg=>?_,λg=>?_⟩
 .rw[if_pos g];refine Tri.mono (J V d y) ?_;rintro _ V1 ⟨c,rfl,l,hc⟩;refine⟨c,rfl,Tri.mono (impFirst o hc (Qq g) (vparts g)) ?_⟩;rintro _ V2 ⟨p,rfl,q,z⟩;refine⟨p,rfl,λhn=>?_,λhn=>?_⟩
  .subst hn;rw[Fa z];exact⟨rfl,l.trans q⟩
  .obtain⟨r,G⟩:=H3 z hn;rw[G]at z⊢;obtain⟨b,t,rfl,hb⟩:=z;exact⟨hn,hn,_,Aj hb 0 1 (by simp),hn,hn,_,Aj hb 1 1 (by simp),hn,hn,_,Aj hb 2 1 (by simp),FD (p:=some ⟨b,0,none⟩) (Aj hb 2 1 (by simp)),hn,hn,FD (p:=some ⟨b,0,none⟩) (Aj hb 1 1 (by simp)),hn,hn,FD (p:=some ⟨b,0,none⟩) (Aj hb 2 1 (by simp)),hn,hn,rfl,l.trans q⟩
 .rw[if_neg g];exact⟨rfl,Mem.sub.refl _⟩
end
end Go.Proofs
namespace Go.Sx
open Go
open Classical
structure KeyOf (P:Program)(kt:TypeId){α:Type}(enc:α->Value):Prop where
 inj:∀a b,enc a=enc b->a=b
 find:∀(a:α)(es:List MapEntry)(w:World),(∀e∈es,∃b,e.key=enc b)->(Instr.findKey kt (enc a) es).run P w=.ok ((es.findIdx? λe=>decide (e.key=enc a)).bind λj=>(es[j]?).map λe=>(j,e.val)) w
 check:∀(b:Bool)(a:α)(w:World),(Instr.checkKey b 10000 kt (enc a)).run P w=.ok () w
 stays:∀(a:α)(w:World),(Instr.keyThatStays (enc a) (enc a)).run P w=.ok (enc a) w
noncomputable def DF(es:List MapEntry)(k:Value):Option Value:=(es.find? λe=>decide (e.key=k)).map (·.val)
structure B2 {α:Type}(enc:α->Value)(V:Mem)(b:Nat)(m:α->Option Value):Prop where
 at_:∃es clock,V b=some (.map es clock)/\(∀e∈es.toList,∃a,e.key=enc a)/\es.toList.Pairwise (λe f=>e.key≠f.key)/\∀a,DF es.toList (enc a)=m a
section
variable{α:Type}{enc:α->Value}{P:Program}{t kt et:TypeId}{V V':Mem}{b c:Nat}{m m':α->Option Value}
theorem B2.sub(h:B2 enc V b m)(g:V.sub V'):B2 enc V' b m:=by
 obtain⟨es,c,z,y⟩:=h.at_;exact⟨es,c,g _ _ z,y⟩
theorem B2.set{o:Obj}(h:B2 enc V b m)(hn:b≠c):B2 enc (V.set c o) b m:=by
 obtain⟨es,c,g,z⟩:=h.at_;exact⟨es,c,by rw[Mem.set_ne hn];exact g,z⟩
theorem B2.made(V:Mem)(b:Nat):B2 enc (V.set b (.map #[] 0)) b λ_=>none:=
 ⟨#[],0,Mem.set_same _ _ _,by simp,by simp,by simp[DF]⟩
theorem B2.congr(h:B2 enc V b m)(e:∀k,m k=m' k):B2 enc V b m':=by
 obtain⟨es,c,g,z,y,l⟩:=h.at_;exact⟨es,c,g,z,y,λk=>(l k).trans (e k)⟩
theorem JW(k:Value):∀es:List MapEntry,DF es k=(es.findIdx? λe=>decide (e.key=k)).bind λj=>(es[j]?).map (·.val)
 |[]=>rfl
 |e::es=>by
  have g:=JW k es;unfold DF at g⊢;simp only[wE,y5];by_cases hk:e.key=k;.simp[hk]
  .simp only[hk,decide_false,zY,if_false,g];cases z:y7 (λe=>decide (e.key=k)) es<;>simp
theorem BE.key2(K:KeyOf P kt enc)(ht:P.underlying t=some (.map kt et)){z:Value}(p:∀w,(zeroValue et).run P w=.ok z w)(hm:B2 enc V b m){k:α}{q:Value->Prop}(g:q (.tuple #[(m k).getD z,.bool (m k).isSome])):BE P t (.map (some b)) (enc k) true V q:=by
 intro w hw;obtain⟨es,c,y,l,-,o⟩:=hm.at_;refine⟨_,?_,g⟩;unfold Instr.lookup;simp only[zV,run_underlying ht,zW,xA (hw _ _ y),zX,K.check,K.find k _ w l];rw[<-o k,JW];cases J:y7 (λe=>decide (e.key=enc k)) es.toList with
 |none=>simp_all
 |some j=>
  grind[xB,zX,yf,yw]
theorem BE.key1(K:KeyOf P kt enc)(ht:P.underlying t=some (.map kt et)){z:Value}(p:∀w,(zeroValue et).run P w=.ok z w)(hm:B2 enc V b m){k:α}{q:Value->Prop}(g:q ((m k).getD z)):BE P t (.map (some b)) (enc k) false V q:=by
 intro w hw;obtain⟨es,c,y,l,-,o⟩:=hm.at_;refine⟨_,?_,g⟩;unfold Instr.lookup;simp only[zV,run_underlying ht,zW,xA (hw _ _ y),zX,K.check,K.find k _ w l];rw[<-o k,JW];cases J:y7 (λe=>decide (e.key=enc k)) es.toList with
 |none=>simp_all
 |some j=>
  grind[xB,zX,yf,yw]
theorem lookV_push{es:List MapEntry}{k val:Value}{c:Nat}(h:es.findIdx? (λe=>decide (e.key=k))=none)(x:Value):DF (es++[{key:=k,val:=val,born:=c}]) x=if x=k then some val else DF es x:=by
 grind[DF]
theorem Ns(k val:Value):∀(es:List MapEntry)(i:Nat) (h:es.findIdx? (λe=>decide (e.key=k))=some i) (x:Value),DF (es.modify i λe=>{e with key:=k,val:=val}) x=if x=k then some val else DF es x
 |[],_,h,_=>by simp at h
 |e::es,i,h,x=>by
  rw[y5]at h;by_cases hk:e.key=k;.grind[DF]
  .simp only[hk,decide_false,zY,if_false,zn]at h;obtain⟨j,g,rfl⟩:=h;have z:=Ns k val es j g x;grind[DF]
theorem Nt(k val:Value):∀(es:List MapEntry)(i:Nat),es.findIdx? (λe=>decide (e.key=k))=some i->(es.modify i λe=>{e with key:=k,val:=val}).map (·.key)=es.map (·.key)
 |[],_,h=>by simp at h
 |e::es,i,h=>by
  rw[y5]at h;by_cases hk:e.key=k;.grind
  .simp only[hk,decide_false,zY,if_false,zn]at h;obtain⟨j,g,rfl⟩:=h;simp[Nt k val es j g]
theorem pair_keys{es:List MapEntry}:es.Pairwise (λe f=>e.key≠f.key)↔(es.map (·.key)).Pairwise (·≠·):=by grind
theorem Co.key(K:KeyOf P kt enc)(ht:P.underlying t=some (.map kt et))(hm:B2 enc V b m){k:α}{val:Value}{q:Mem->Prop}(G:∀o,B2 enc (V.set b o) b (λx=>if x=k then some val else m x)->q (V.set b o)):Co P t (.map (some b)) (enc k) val V q:=by
 intro w hw;obtain⟨es,c,z,Z,I,Y⟩:=hm.at_;have g:(yc t (.map (some b)) (enc k) val).run P w=
   (match es.toList.findIdx? (λe=>decide (e.key=enc k))with
   |some i=>(setObj b (.map (es.modify i λe=>{e with key:=enc k,val:=val}) c)).run P w
   |none=>(setObj b (.map (es.push {key:=enc k,val:=val,born:=c}) (c+1))).run P w):=by
  unfold yc;simp only[zV,run_underlying ht,zW,xA (hw _ _ z),K.check,K.find k _ w Z];cases y:y7 (λe=>decide (e.key=enc k)) es.toList with
  |none=>rfl
  |some j=>
   obtain⟨l,W,_⟩:=xB.1 y;have A:j<es.size:=by simpa using l
   have p:(es[j]?).map (·.key)=some (enc k):=by
    simp_all
   simp only[yf l,Option.bind_some,Option.map_some,zV,p,Option.getD_some,K.stays,zW]
 have J:∀a,(if enc a=enc k then some val else DF es.toList (enc a))=if a=k then some val else m a:=λa=>by
  by_cases e:a=k;.simp_all
  .rw[if_neg e,if_neg (λh=>e (K.inj _ _ h)),Y]
 cases y:y7 (λe=>decide (e.key=enc k)) es.toList with
 |none=>
  rw[y]at g;refine⟨_,V.set b (.map (es.push {key:=enc k,val:=val,born:=c}) (c+1)),g.trans (xC _ (hw _ _ z)),Ax.put hw z,G _ ⟨_,_,Mem.set_same _ _ _,?_,?_,λx=>?_⟩⟩;.grind
  .grind
  .rw[Array.toList_push,lookV_push y,J]
 |some j=>
  rw[y]at g;refine⟨_,V.set b (.map (es.modify j λe=>{e with key:=enc k,val:=val}) c),g.trans (xC _ (hw _ _ z)),Ax.put hw z,G _ ⟨_,_,Mem.set_same _ _ _,?_,?_,λx=>?_⟩⟩
  .intro e N;rw[xD]at N;obtain⟨i,hi,rfl⟩:=xE.1 N;rw[List.getElem_modify];split;.grind
   simp_all
  .simp_all[xD,pair_keys,Nt]
  simp_all[xD,Ns]
theorem Nu:∀(es:List MapEntry)(k:Value)(i:Nat),es.Pairwise (λe f=>e.key≠f.key)->es.findIdx? (λe=>decide (e.key=k))=some i->∀x,DF (es.eraseIdx i) x=if x=k then none else DF es x
 |[],_,_,_,h,_=>by simp at h
 |e::es,k,i,z,h,x=>by
  obtain⟨y,g⟩:=List.pairwise_cons.1 z;rw[y5]at h;by_cases hk:e.key=k;.grind[DF]
  .simp only[hk,decide_false,zY,if_false,zn]at h;obtain⟨j,l,rfl⟩:=h;have q:=Nu es k j g l x;grind[DF]
theorem GenK.delete(K:KeyOf P kt enc)(ht:P.underlying t=some (.map kt et))(hm:B2 enc V b m){k:α}{x y:Operand}{t2 ty:TypeId}{vals:Operand->Value}(W:vals x=.map (some b))(A:vals y=enc k){q:Value->Mem->Prop}
  (N:∀o,B2 enc (V.set b o) b (λx=>if x=k then none else m x)->q (.tuple #[]) (V.set b o)):GenK P (.call {callee:=.builtin .delete,args:=#[x,y],argTypes:=#[t,t2]}) ty vals V q:=by
 intro w hw;obtain⟨es,c,z,p,Z,I⟩:=hm.at_;have g:(execOp vals {dst:=none,op:=.call {callee:=.builtin .delete,args:=#[x,y],argTypes:=#[t,t2]},type:=ty,pos:= "",after:=#[],guard:=none}).run P w=
   (Sem.run P (match es.toList.findIdx? (λ(e:MapEntry)=>decide (e.key=enc k))with
   |some i=>setObj b (.map (es.eraseIdxIfInBounds i) c)
   |none=>setObj b (.map es c)) w).andThen λ_ w'=>.ok (.value (.tuple #[])) w':=by
  unfold execOp;simp only[resolve,invoke,builtin,zV,zX,zW,List.map_toArray,zI,List.map_nil,W,A,Builtin.delete_];simp only[List.getElem?_toArray,List.getElem?_cons_zero,List.getElem?_cons_succ,zV,run_underlying ht,zW,xA (hw _ _ z),K.check,K.find k _ w p];cases l:y7 (λe=>decide (e.key=enc k)) es.toList with
  |none=>simp[zV,zX,xC _ (hw _ _ z),zW]
  |some j=>
   have J:=(xB.1 l).1;have G:es[j]?=some es[j]:=yw (show j<es.size by simpa using J);simp[zV,zX,xC _ (hw _ _ z),zW,G]
 cases l:y7 (λe=>decide (e.key=enc k)) es.toList with
 |none=>
  rw[l]at g;simp only[xC _ (hw _ _ z),zW]at g;refine⟨_,_,V.set b (.map es c),g,Ax.put hw z,N _ ⟨_,_,Mem.set_same _ _ _,p,Z,λa=>?_⟩⟩;by_cases e:a=k
  .subst e;rw[if_pos rfl,JW,l];rfl
  simp_all
 |some j=>
  rw[l]at g;simp only[xC _ (hw _ _ z),zW]at g;refine⟨_,_,V.set b (.map (es.eraseIdxIfInBounds j) c),g,Ax.put hw z,N _ ⟨_,_,Mem.set_same _ _ _,?_,?_,λa=>?_⟩⟩
  .intro e Y;rw[wG]at Y;exact p e (List.mem_of_mem_eraseIdx Y)
  .grind[wG,List.eraseIdx_sublist]
  .rw[wG,Nu _ _ _ Z l,I];by_cases e:a=k;.simp_all
   .rw[if_neg e,if_neg (λh=>e (K.inj _ _ h))]
end
end Go.Sx
namespace Go.Proofs
open Go Go.Sx
attribute [local irreducible] Go.Sx.Tri
def Aw(n:Int):XV:=[uI n]
def Ev(n:Int):Prop:=-9223372036854775808<=n/\n<=9223372036854775807
structure Nd where
 ty:Int
 sl:Sl
 f:XZ
abbrev _root_.Go.XH:=List Nd
def Nd.row(n:Nd):XV:=[uI n.ty,n.sl.v]
def Nd.v(n:Nd):Value:=.agg n.row.toArray
structure Nd.Ok (V:Mem)(n:Nd):Prop where
 rows:Ae V n.sl 1 (n.f.map Aw)
 tyIn:Ev n.ty
 vals:∀x∈n.f,Ev x
structure Mm where
 gs:Sl
 globals:XZ
 ns:Sl
 nodes:XH
def Mm.row(m:Mm):XV:=[m.gs.v,m.ns.v]
def Mm.v(m:Mm):Value:=.agg m.row.toArray
structure Mm.Ok (V:Mem)(m:Mm):Prop where
 globals:Ae V m.gs 1 (m.globals.map Aw)
 gIn:∀x∈m.globals,Ev x
 nodes:Ae V m.ns 2 (m.nodes.map Nd.row)
 nodesOk:∀n∈m.nodes,Nd.Ok V n
theorem Nd.Ok.sub{V V':Mem}{n:Nd}(h:Nd.Ok V n)(g:V.sub V'):Nd.Ok V' n:=⟨h.rows.sub g,h.tyIn,h.vals⟩
theorem Mm.Ok.sub{V V':Mem}{m:Mm}(h:Mm.Ok V m)(g:V.sub V'):Mm.Ok V' m:=⟨h.globals.sub g,h.gIn,h.nodes.sub g,λn hn=>(h.nodesOk n hn).sub g⟩
def allI{α:Type}(p:Nat->α->Bool)(xs:List α):Bool:=xs.zipIdx.all λx=>p x.2 x.1
def AllI{α:Type}(p:Nat->α->Bool)(xs:List α)(i:Nat):Prop:=∀j x,j<i->xs[j]?=some x->p j x=true
theorem AllI.zero{α:Type}{p:Nat->α->Bool}{xs:List α}:AllI p xs 0:=λ_ _ h=>absurd h (Nat.not_lt_zero _)
theorem AllI.succ{α:Type}{p:Nat->α->Bool}{xs:List α}{i:Nat}{x:α}(h:AllI p xs i)(q:xs[i]?=some x)(o:p i x=true):AllI p xs (i+1):=λj y g z=>by
 rcases Nat.lt_succ_iff_lt_or_eq.1 g with l|rfl;.exact h j y l z
 simp_all
theorem GG{α:Type}{p:Nat->α->Bool}{xs:List α}:allI p xs=true↔∀j x,xs[j]?=some x->p j x=true:=by
 unfold allI;rw[yK];constructor;.simp_all[List.mem_zipIdx_iff_getElem?]
 grind
theorem AllI.all{α:Type}{p:Nat->α->Bool}{xs:List α}{i:Nat}(h:AllI p xs i)(hi:xs.length<=i):allI p xs=true:=
 GG.2 λj x g=>h j x (by grind) g
theorem Lv{α:Type}{p:Nat->α->Bool}{xs:List α}{j:Nat}{x:α}(g:xs[j]?=some x)(z:¬p j x=true):allI p xs=false:=by
 grind[allI,absurd,GG]
def BA(d:Ds)(s:KB):Int:=B1 (λt=>decide (t.name=s)) d.types
def D0(d:Ds)(l:XX):Bool:=l.all λf=>known d f.ty
def hasT(d:Ds):Bool:=A8 d&&D0 d d.globals&&allI (λi t=>decide (BA d t.name=(i:Int))&&D0 d t.fields) d.types
def B3(d:Ds)(t:Int):XX:=((d.types[t.toNat]?).map (·.fields)).getD []
def tyAt(l:XX)(i:Nat):KB:=((l[i]?).map (·.ty)).getD sE
def AW(d:Ds)(m:Mm)(g:KB)(v:Int):Bool:=
 if g=Ak then decide (-1099511627776<=v/\v<=1099511627776)else if g=Ay then decide (v=0∨v=1)
 else decide (v=0∨(1<=v/\v<=(m.nodes.length:Int)/\(m.nodes[(v-1).toNat]?).map (·.ty)=some (BA d g)))
def AE(d:Ds)(m:Mm)(l:XX)(vs:XZ):Bool:=decide (l.length=vs.length)&&allI (λi v=>AW d m (tyAt l i) v) vs
def Eg(d:Ds)(n:Nd):Bool:=decide (0<=n.ty/\n.ty<(d.types.length:Int))
def BX(d:Ds)(m:Mm):Bool:=hasT d&&decide (m.nodes.length<=4096)&&m.nodes.all (Eg d)&&AE d m d.globals m.globals&&m.nodes.all λn=>AE d m (B3 d n.ty) n.f
theorem row_take{V:Mem}{a:Addr}{n k:Nat}{vs:XV}(h:V.row a n=some vs)(hk:k<=n):V.row a k=some (vs.take k):=by
 grind[Mem.row]
theorem JX{V:Mem}{p:XI}{off n k:Nat}{vs:XV}(h:V.rowp p off n=some vs)(hk:k<=n):V.rowp (Aa (Aa p off) 0) 0 k=some (vs.take k):=by
 cases p with
 |none=>cases h
 |some a=>
  have g:((a.add off).add 0).add 0=a.add off:=by rfl
  show V.row (((a.add off).add 0).add 0) k=_;rw[g];exact row_take h hk
section
variable{V:Mem}{d:Ds}{m:Mm}
theorem Lw(d:Ds)(s:KB):(BA d s<0/\BK d s=false)∨(0<=BA d s/\BK d s=true):=by
 grind[BA,BK,Cv,Ty]
theorem c119(h:Ds.Ok V d){l:Sl}{xs:XX}(q:Ae V l 2 (xs.map Fld.row)):PP 119 [d.v,l.v] V (uB (D0 d xs)):=by
 refine x119 ?_;refine AG (mk:=.bool) (b0:=false) xs.length (λi V1=>V=V1/\AQ (λf=>known d f.ty) xs i) ⟨rfl,AQ.zero _ _⟩ ?_;rintro i b V1 J hi ⟨rfl,ha⟩ Z;refine⟨λg=>?_,λo=>?_⟩
 .obtain⟨x,hm,Y,W,hl,y,p,z⟩:=q.get g;have G:=Ai (n:=i*2) y;have N:known d x.ty=true->IR ((i:Int)+1)/\J [.bool b,uI ((i:Int)+1)] V:=λhk=>⟨q.succ g,Z hl _ _ ⟨rfl,ha.succ Y hk⟩⟩;refine⟨y,p,g,G,_,_,z,λA=>N (by grind[known,Ak]),λA=>⟨y,p,g,G,_,_,z,λI=>N (by grind[known,Ay]),λI=>⟨y,p,g,G,_,_,z,(c120 h).call ⟨_,rfl,λM=>?_,λM=>N ?_⟩⟩⟩⟩
  .rcases Lw d x.ty with⟨-,k⟩|⟨k,-⟩
   .have:known d x.ty=false:=by grind[known,Ak,Ay]
    unfold D0;grind
   grind[absurd,BA]
  .rcases Lw d x.ty with⟨k,-⟩|⟨-,k⟩;.grind[absurd,BA]
   grind[known]
 .unfold D0;rw[ha.all (q.done o).2];simp_all
theorem Qs(h:Ds.Ok V d):PP 70 [d.v] V (uB (hasT d)):=by
 refine Px ?_;unfold hasT;refine(JL h).call ⟨_,rfl,λhv=>(c119 h h.globals).call ⟨_,rfl,λht=>?_,λht=>?_⟩,λhv=>?_⟩
 .rw[hv,ht,Bool.true_and,Bool.true_and];refine AG (mk:=.bool) (b0:=false) d.types.length (λi V1=>V=V1/\AllI (λi t=>decide (BA d t.name=(i:Int))&&D0 d t.fields) d.types i) ⟨rfl,AllI.zero⟩ ?_;rintro i b V1 J hi ⟨rfl,ha⟩ N;refine⟨λg=>?_,λy=>?_⟩
  .obtain⟨x,hm,l,Z,hl,q,o,z⟩:=h.types.get g;have p:=Ai (n:=i*2) q;refine⟨q,o,g,p,_,_,z,(c120 h).call ⟨_,rfl,λG=>⟨q,o,g,p,_,_,z,(c119 h (h.typesOk x hm).fields).call ⟨_,rfl,λY=>⟨h.types.succ g,N hl _ _ ⟨rfl,ha.succ l ?_⟩⟩,λY=>?_⟩⟩,λG=>?_⟩⟩;.grind[BA]
   .rw[Lv l (by simp_all)];simp_all
   .rw[Lv l (by rw[zD,decide_eq_true_eq];exact λk=>G k.1)];simp_all
  .rw[ha.all (h.types.done y).2];simp_all
 .simp_all
 simp_all
theorem Lx(h:Ds.Ok V d)(hm:Mm.Ok V m){s:KB}{v:Int}:PP 71 [d.v,m.v,uS s,uI v] V (uB (AW d m s v)):=by
 refine Py ?_;unfold AW;have hn:=hm.nodes.n_eq;have fin:∀{a b:Bool},a=b->(xY (.bool a)=xY (.bool b)/\V=V):=λe=>⟨by rw[e],rfl⟩;refine⟨λy=>?_,λy=>⟨λl=>?_,λl=>?_⟩⟩;.grind[Ak]
 .grind[Ak,Ay,inr]
 .rw[if_neg (show ¬s=Ak from y),if_neg (show ¬s=Ay from l)];refine⟨λq=>fin (decide_eq_true (.inl q)).symm,λq=>⟨λo=>⟨λG=>?_,λG=>fin ?_⟩,λo=>fin ?_⟩⟩
  .obtain⟨i,rfl⟩:∃i:Nat,v=(i:Int)+1:=⟨(v-1).toNat,by omega⟩;have e:((i:Int)+1-1)=(i:Int):=by omega
   have N:(i:Int)+1<=9223372036854775807:=by have:=(hm.nodes.succ (i:=i) (by omega)).2;omega
   rw[e];obtain⟨x,Z,p,Y,hl,z,W,g⟩:=hm.nodes.get (i:=i) (by omega);have J:=Ai (n:=i*2) z;refine⟨⟨by omega,by omega⟩,z,by omega,by omega,J,_,_,g,(c120 h).call ⟨_,rfl,?_,J,z,by omega,by omega,⟨by omega,by omega⟩,fin ?_⟩⟩;.exact JX (k:=1) g (by decide)
   .refine decide_eq_decide.2 ⟨λk=>.inr ⟨o,by omega,?_⟩,λk=>?_⟩
    .show Option.map (·.ty) (m.nodes[((i:Int)).toNat]?)=_;rw[wH,p];exact congrArg some k
    .rcases k with k|⟨-,-,k⟩;.omega
     .rw[show((i:Int)).toNat=i from rfl,p]at k;exact Option.some.inj k
  .grind
  grind
theorem Ew{t:Int}{x:Ty}{k:Nat}(g:d.types[k]?=some x)(ht:t=(k:Int)):B3 d t=x.fields:=by
 grind[B3]
theorem Ly(h:Ds.Ok V d)(hm:Mm.Ok V m):PP 32 [d.v,m.v] V (uB (BX d m)):=by
 refine OW ?_;have hn:=hm.nodes.n_eq;have hg:=hm.globals.n_eq;have hdg:=h.globals.n_eq;have hdt:=h.types.n_eq;have B:∀{V1:Mem},V=V1->¬BX d m=true->(xY (.bool false)=xY (.bool (BX d m))/\V1=V):=λe k=>⟨by simp_all,e.symm⟩;have parts:BX d m=true↔hasT d=true/\m.nodes.length<=4096/\(∀n∈m.nodes,Eg d n=true)/\AE d m d.globals m.globals=true/\∀n∈m.nodes,AE d m (B3 d n.ty) n.f=true:=by
  grind[BX]
 refine(Qs h).call ⟨_,rfl,λht=>⟨λhl=>⟨λhbig=>B rfl λk=>?_,λhbig=>?_⟩,λhl=>B rfl λk=>?_⟩,λht=>B rfl λk=>ht (parts.1 k).1⟩;.grind
 .let PA:Nd->Bool:=λn=>Eg d n&&decide ((B3 d n.ty).length=n.f.length);refine AG (mk:=.bool) (b0:=false) m.nodes.length (λi V1=>V=V1/\AQ PA m.nodes i) ⟨rfl,AQ.zero _ _⟩ ?_;rintro i b V1 J hi ⟨rfl,ha⟩ C;refine⟨λg=>?_,λo=>?_⟩
  .obtain⟨x,q,hx,hdr,Z,I,D,l⟩:=hm.nodes.get g;have hq:=Ai (n:=i*2) I;have hnx:=(hm.nodesOk x q).rows.n_eq;refine⟨I,D,g,hq,_,_,l,λU=>B rfl λk=>?_,λU=>⟨λh2=>B rfl λk=>?_,λh2=>?_⟩⟩
   .have:=(parts.1 k).2.2.1 x q;exact absurd (of_decide_eq_true this).1 (by omega)
   .have:=(parts.1 k).2.2.1 x q;exact absurd (of_decide_eq_true this).2 (by omega)
   .obtain⟨t,p⟩:∃t:Nat,x.ty=(t:Int):=⟨x.ty.toNat,by omega⟩;obtain⟨y,K,hy,-,-,Y,hyz,G⟩:=h.types.get (i:=t) (by omega);have hfn:=(h.typesOk y K).fields.n_eq;have M:=Ew hy p;have h1':(0:Int)<=x.ty:=by omega
    rw[p]at U h2⊢;refine⟨I,D,g,hq,_,_,l,Y,by omega,by omega,Ai Y,_,_,G,λh3=>⟨hm.nodes.succ g,C Z _ _ ⟨rfl,ha.succ hx ?_⟩⟩,λh3=>B rfl λk=>?_⟩;.grind[Eg,B3]
    grind[AE]
  have hA:=ha.all (hm.nodes.done o).2;rw[yK]at hA;clear C ha o hi;refine AG (mk:=.bool) (b0:=b) m.globals.length (λi V1=>V=V1/\AllI (λi v=>AW d m (tyAt d.globals i) v) m.globals i) ⟨rfl,AllI.zero⟩ ?_;rintro i b1 V1 J hi ⟨rfl,ha⟩ C;refine⟨λg=>?_,λo=>?_⟩
  .obtain⟨x,q,hx,hdr,Z,I,D,l⟩:=hm.globals.get g;obtain⟨f,hfm,hf,-,-,W,S,N⟩:=h.globals.get (i:=i) (by omega);have hty:tyAt d.globals i=f.ty:=by grind[tyAt]
   refine⟨W,S,by omega,Ai W,_,_,N,I,D,g,_,l,(Lx h hm).call ⟨_,rfl,λU=>⟨hm.globals.succ g,C Z _ _ ⟨rfl,ha.succ hx (by grind)⟩⟩,λU=>B rfl λk=>?_⟩⟩;have:=(parts.1 k).2.2.2.1;unfold AE at this;rw[zD]at this;grind[GG]
  have hG:=ha.all (hm.globals.done o).2;clear C ha o hi;refine AG (mk:=.bool) (b0:=b1) m.nodes.length (λi V1=>V=V1/\AQ (λn=>AE d m (B3 d n.ty) n.f) m.nodes i) ⟨rfl,AQ.zero _ _⟩ ?_;rintro i b2 V1 J hi ⟨rfl,ha⟩ C;refine⟨λg=>?_,λo=>?_⟩
  .obtain⟨x,q,hx,hdr,Z,I,D,l⟩:=hm.nodes.get g;have hq:=Ai (n:=i*2) I;have hxo:=hm.nodesOk x q;have hPx:=hA x q;rw[zD,decide_eq_true_eq]at hPx;obtain⟨hP1,hP2⟩:=hPx;have hP1:=of_decide_eq_true hP1;obtain⟨t,p⟩:∃t:Nat,x.ty=(t:Int):=⟨x.ty.toNat,by omega⟩;obtain⟨y,K,hy,-,-,Y,hyz,G⟩:=h.types.get (i:=t) (by omega);have X:=(h.typesOk y K).fields;have M:=Ew hy p;refine⟨I,D,g,hq,_,_,l,Y,by rw[p];omega,by rw[p];omega,Ai Y,_,_,by rw[p];exact G,?_⟩;rw[M]at hP2;have hxn:=hxo.rows.n_eq;have hyn:=X.n_eq;refine AG (mk:=.bool) (b0:=b2) y.fields.length (λj V1=>V=V1/\AllI (λi v=>AW d m (tyAt y.fields i) v) x.f j) ⟨rfl,AllI.zero⟩ ?_;rintro j b3 V1 J1 hj ⟨rfl,ha1⟩ hJ1;refine⟨λA=>?_,λhge1=>⟨hm.nodes.succ g,C Z _ _ ⟨rfl,ha.succ hx ?_⟩⟩⟩
   .obtain⟨f,hfm,hf,-,hfl,W,S,N⟩:=X.get A;obtain⟨z,hzm,hzx,-,-,hzp,hzz,T⟩:=hxo.rows.get (i:=j) (by omega);have hty:tyAt y.fields j=f.ty:=by grind[tyAt]
    refine⟨W,S,A,Ai W,_,_,N,I,D,g,hq,_,_,l,hzp,hzz,by omega,_,T,(Lx h hm).call ⟨_,rfl,λU=>⟨X.succ A,hJ1 hfl _ _ ⟨rfl,ha1.succ hzx (by grind)⟩⟩,λU=>B rfl λk=>?_⟩⟩;have:=(parts.1 k).2.2.2.2 x q;unfold AE at this;rw[zD,M]at this;grind[GG]
   .have:=(X.done hge1).2;unfold AE;rw[M,ha1.all (by omega),decide_eq_true hP2];rfl
  .have hN:=ha.all (hm.nodes.done o).2;rw[yK]at hN;have:BX d m=true:=parts.2 ⟨ht,by omega,λn hn'=>(zD _ _▸hA n hn').1,by grind[AE],hN⟩;simp_all
 grind[AE]
end
end Go.Proofs
namespace Go.Proofs
open Go Go.Sx
inductive Rs where
 |ok (v:Int)
 |bad (e:Int)
deriving DecidableEq
def Rs.bind:Rs->(Int->Rs)->Rs
 |.ok v,f=>f v
 |.bad e,_=>.bad e
def AR(n:Int):Rs:=if -1099511627776<=n/\n<=1099511627776 then .ok n else .bad 5
def De(b:Bool):Int:=if b then 1 else 0
def AC(op a b:Int):Rs:=
 if op=9 then AR (a+b)else if op=10 then AR (a-b)else if op=11 then AR (a*b)
 else if op=22 then .ok (if a<b then b else a)else if op=23 then .ok (if b<a then b else a)
 else if op=14 then .ok (De (decide (a=b)))else if op=15 then .ok (De (!decide (a=b)))else if op=16 then .ok (De (decide (a<b)))else if op=17 then .ok (De (decide (a<=b)))
 else if b=0 then .bad 18 else if op=12 then .ok (a.tdiv b)else .ok (a.tmod b)
def Bu(l:XX)(s:KB):Int:=B1 (λf=>decide (f.name=s)) l
def mIdx(d:Ds)(s:KB):Int:=B1 (λx=>decide (x.name=s)) d.measures
def BP(d:Ds)(s:KB):Int:=B1 (λx=>decide (x.name=s)) d.invs
def varV(d:Ds)(m:Mm)(x:Int)(s:KB):Int:=if s=C3 then x else(m.globals[(Bu d.globals s).toNat]?).getD 0
def fldV(d:Ds)(m:Mm)(a:Int)(s:KB):Rs:=
 if a=0 then .bad 17 else match m.nodes[(a-1).toNat]? with
  |none=>.bad 0
  |some n=>.ok ((n.f[(Bu (B3 d n.ty) s).toNat]?).getD 0)
def Bv(a:Int):Int:=(Nat.log2 a.toNat:Int)
def BB(rs:List Rs)(i:Nat):Rs:=rs.getD i (.bad 0)
section
variable(d:Ds)(m:Mm)
def C5(F:Int->Int->Rs)(x op n:Int)(s:KB)(rs:List Rs):Rs:=
 if op=1∨op=2 then .ok n else if op=3 then .ok 0 else if op=4 then .ok (varV d m x s)
 else if op=5 then(BB rs 0).bind λa=>fldV d m a s
 else if op=7 then(BB rs 0).bind λa=>F (mIdx d s) a
 else if op=8 then(BB rs 0).bind λa=>AR (-a)
 else if op=18 then(BB rs 0).bind λa=>.ok (1-a)
 else if op=24 then(BB rs 0).bind λa=>.ok (Bv a)
 else if op=19 then(BB rs 0).bind λa=>if a=0 then .ok 0 else BB rs 1
 else if op=20 then(BB rs 0).bind λa=>if a=0 then BB rs 1 else .ok 1
 else if op=21 then(BB rs 0).bind λa=>if a=0 then BB rs 2 else BB rs 1
 else(BB rs 0).bind λa=>(BB rs 1).bind λb=>AC op a b
mutual
def Au(F:Int->Int->Rs)(x:Int):E->Rs
 |.mk op n s _ k=>C5 d m F x op n s (evEs F x k)
def evEs(F:Int->Int->Rs)(x:Int):XY->List Rs
 |[]=>[]
 |e::es=>Au F x e::evEs F x es
end
def nilM(k:Int):Int:=((d.measures[k.toNat]?).map (·.nil)).getD 0
def Al:Nat->Int->Int->Rs
 |0,k,x=>if x=0 then .ok (nilM d k)else .bad 16
 |n+1,k,x=>if x=0 then .ok (nilM d k)else match d.measures[k.toNat]? with|some ms=>Au d m (Al n) x ms.x|none=>.bad 0
end
variable{d:Ds}{m:Mm}
theorem evEs_map(F:Int->Int->Rs)(x:Int):∀k:XY,evEs d m F x k=k.map (Au d m F x)
 |[]=>by unfold evEs;rfl
 |e::es=>by unfold evEs;rw[evEs_map F x es];rfl
theorem GH(F:Int->Int->Rs)(x:Int)(e:E):Au d m F x e=C5 d m F x e.op e.n e.s (e.k.map (Au d m F x)):=by
 cases e;unfold Au;rw[evEs_map];rfl
def Rs.le(a b:Rs):Prop:=a=.bad 16∨a=b
theorem Rs.le.trans{a b c:Rs}(h:Rs.le a b)(k:Rs.le b c):Rs.le a c:=by
 rcases h with h|rfl;.exact .inl h
 .exact k
theorem Rs.le.bind{a b:Rs}{f g:Int->Rs}(h:Rs.le a b)(k:∀v,Rs.le (f v) (g v)):Rs.le (a.bind f) (b.bind g):=by
 rcases h with rfl|rfl;.exact .inl rfl
 .cases a with
  |ok v=>exact k v
  |bad e=>exact .inr rfl
theorem kid_le{k:XY}{f g:E->Rs}(h:∀e∈k,Rs.le (f e) (g e))(i:Nat):Rs.le (BB (k.map f) i) (BB (k.map g) i):=by
 unfold BB;rw[wI,wI,xJ,xJ];cases hk:k[i]? with
 |none=>exact .inr rfl
 |some e=>grind
theorem comb_le{F G:Int->Int->Rs}(q:∀k x,Rs.le (F k x) (G k x)){x op n:Int}{s:KB}{rs qs:List Rs}(h:∀i,Rs.le (BB rs i) (BB qs i)):Rs.le (C5 d m F x op n s rs) (C5 d m G x op n s qs):=by
 have g:∀{c:Prop} [Decidable c] {a b y l:Rs},Rs.le a y->Rs.le b l->Rs.le (if c then a else b) (if c then y else l):=λ{c} _ {a b y l} o p=>by grind
 have z:∀{a:Rs},Rs.le a a:=.inr rfl;unfold C5;exact g z (g z (g z (g (Rs.le.bind (h 0) λ_=>z) (g (Rs.le.bind (h 0) λ_=>q _ _) (g (Rs.le.bind (h 0) λ_=>z) (g (Rs.le.bind (h 0) λ_=>z) (g (Rs.le.bind (h 0) λ_=>z)
  (g (Rs.le.bind (h 0) λ_=>g z (h 1)) (g (Rs.le.bind (h 0) λ_=>g (h 1) z) (g (Rs.le.bind (h 0) λ_=>g (h 2) (h 1)) (Rs.le.bind (h 0) λ_=>Rs.le.bind (h 1) λ_=>z)))))))))))
theorem evE_le{F G:Int->Int->Rs}(g:∀k x,Rs.le (F k x) (G k x))(x:Int)(e:E):Rs.le (Au d m F x e) (Au d m G x e):=by
 induction e using E.ind with
 |h e z=>
 grind[GH,comb_le,kid_le]
theorem evM_le:∀(n:Nat)(k x:Int),Rs.le (Al d m n k x) (Al d m (n+1) k x)
 |0,k,x=>by
  unfold Al;by_cases h:x=0;.rw[if_pos h,if_pos h];exact .inr rfl
  .rw[if_neg h];exact .inl rfl
 |n+1,k,x=>by
  rw[Al,Al];by_cases h:x=0;.rw[if_pos h,if_pos h];exact .inr rfl
  .rw[if_neg h,if_neg h];cases d.measures[k.toNat]? with
   |none=>exact .inr rfl
   |some ms=>exact evE_le (evM_le n) x ms.x
theorem evM_mono{n g:Nat}(h:n<=g)(k x:Int):Rs.le (Al d m n k x) (Al d m g k x):=by
 induction h with
 |refl=>exact .inr rfl
 |step _ z=>exact z.trans (evM_le _ k x)
def Mono(g:Nat->Rs):Prop:=∀n z,n<=z->Rs.le (g n) (g z)
theorem Ca(x:Int)(e:E):Mono λn=>Au d m (Al d m n) x e:=λ_ _ h=>evE_le (evM_mono h) x e
theorem Lz(k x:Int):Mono λn=>Al d m n k x:=λ_ _ h=>evM_mono h k x
theorem JY(r:Rs):Mono λ_=>r:=λ_ _ _=>.inr rfl
def Out(d:Ds)(m:Mm)(B:Int->Int->Prop)(g:Nat->Rs):Rs->Prop
 |.ok v=>∃n,g n=.ok v
 |.bad e=>(e≠16/\∃n,g n=.bad e)∨(e=16/\((∀n,g n=.bad 16)∨∃k x,B k x/\∀n,Al d m n k x=.bad 16->g n=.bad 16))
theorem Out.const(B:Int->Int->Prop){r:Rs}:Out d m B (λ_=>r) r:=by
 cases r with
 |ok v=>exact⟨0,rfl⟩
 |bad e=>
  by_cases h:e=16;.subst h;exact .inr ⟨rfl,.inl λ_=>rfl⟩
  .exact .inl ⟨h,0,rfl⟩
theorem Out.congr{B:Int->Int->Prop}{g z:Nat->Rs}{r:Rs}(h:Out d m B g r)(e:∀n,g n=z n):Out d m B z r:=by
 have:g=z:=funext e;simp_all
theorem Out.bindBad{B:Int->Int->Prop}{g:Nat->Rs}{h:Nat->Int->Rs}{e:Int}(k:Out d m B g (.bad e)):Out d m B (λn=>(g n).bind (h n)) (.bad e):=by
 rcases k with⟨z,n,y⟩|⟨rfl,k⟩;.exact .inl ⟨z,n,by show(g n).bind (h n)=_;rw[y];rfl⟩
 .refine .inr ⟨rfl,?_⟩;rcases k with k|⟨a,b,z,y⟩;.exact .inl λn=>by show(g n).bind (h n)=_;rw[k n];rfl
  .exact .inr ⟨a,b,z,λn hn=>by show(g n).bind (h n)=_;rw[y n hn];rfl⟩
theorem Out.bindOk{B:Int->Int->Prop}{g:Nat->Rs}{h:Nat->Int->Rs}{v:Int}{r:Rs}(o:Mono g)(N:Mono λn=>h n v)(k:Out d m B g (.ok v))(p:Out d m B (λn=>h n v) r):Out d m B (λn=>(g n).bind (h n)) r:=by
 obtain⟨z,J⟩:=k;have Z:∀n,h n v=.bad 16->(g n).bind (h n)=.bad 16:=λn hn=>by
  rcases o n (max n z) (by omega)with y|y;.rw[y];rfl
  .rcases o z (max n z) (by omega)with l|l;.simp_all
   .rw[y,<-l,J];exact hn
 have up:∀n q,h n v=q->q≠.bad 16->∃n,(g n).bind (h n)=q:=λn q hn Y=>by
  refine⟨max n z,?_⟩;rcases o z (max n z) (by omega)with l|l;.simp_all
  .rw[<-l,J];rcases N n (max n z) (by omega)with G|G;.simp_all
   .exact G.symm.trans hn
 cases r with
 |ok w=>obtain⟨n,hn⟩:=p;exact up n _ hn nofun
 |bad e=>
  rcases p with⟨y,n,l⟩|⟨rfl,y⟩;.exact .inl ⟨y,up n _ l (λc=>y (by cases c;rfl))⟩
  .refine .inr ⟨rfl,?_⟩;grind
theorem Out.measure{B:Int->Int->Prop}{k x:Int}{ms:Ms}(q:x≠0)(hk:d.measures[k.toNat]?=some ms){r:Rs}(h:Out d m (λa b=>B a b∨(a=k/\b=x)) (λn=>Au d m (Al d m n) x ms.x) r):Out d m B (λn=>Al d m n k x) r:=by
 have z:∀n,Al d m (n+1) k x=Au d m (Al d m n) x ms.x:=λn=>by grind[Al]
 have zero:Al d m 0 k x=.bad 16:=by rw[Al,if_neg q]
 cases r with
 |ok v=>obtain⟨n,h⟩:=h;exact⟨n+1,(z n).trans h⟩
 |bad e=>
  rcases h with⟨y,n,l⟩|⟨rfl,h⟩;.exact .inl ⟨y,n+1,(z n).trans l⟩
  .refine .inr ⟨rfl,?_⟩;rcases h with h|⟨a,b,y,l⟩;.exact .inl λn=>by cases n with|zero=>exact zero|succ n=>simp_all
   .rcases y with y|⟨rfl,rfl⟩
    .refine .inr ⟨a,b,y,λn hn=>?_⟩;cases n with
     |zero=>exact zero
     |succ n=>
      refine(z n).trans (l n ?_);rcases evM_le (d:=d) (m:=m) n a b with g|g;.exact g
      grind
    .refine .inl λn=>?_;induction n with
     |zero=>exact zero
     |succ n o=>simp_all
theorem Out.unique{g:Nat->Rs}(o:Mono g){r p:Rs}(h:Out d m (λ_ _=>False) g r)(N:Out d m (λ_ _=>False) g p):r=p:=by
 have key:∀{r:Rs},Out d m (λ_ _=>False) g r->(r≠.bad 16/\∃n,g n=r)∨(r=.bad 16/\∀n,g n=.bad 16):=λ{r} h=>by
  cases r with
  |ok v=>exact .inl ⟨nofun,h⟩
  |bad e=>
   rcases h with⟨z,J⟩|⟨rfl,h⟩;.simp_all
   simp_all
 rcases key h with⟨z,n,J⟩|⟨z,J⟩<;>rcases key N with⟨G,l,Z⟩|⟨G,Z⟩
 .have y:=o n (max n l) (by omega);have q:=o l (max n l) (by omega);rcases y with y|y;.simp_all
  .rcases q with q|q;.simp_all
   simp_all
 .simp_all
 .simp_all
 .rw[z,G]
section
variable{F:Int->Int->Rs}{x op n:Int}{s:KB}{rs:List Rs}
theorem comb1(h:op=1∨op=2):C5 d m F x op n s rs=.ok n:=by rcases h with rfl|rfl<;>rfl
theorem comb3(h:op=3):C5 d m F x op n s rs=.ok 0:=by subst h;rfl
theorem comb4(h:op=4):C5 d m F x op n s rs=.ok (varV d m x s):=by subst h;rfl
theorem comb5(h:op=5):C5 d m F x op n s rs=(BB rs 0).bind λa=>fldV d m a s:=by subst h;rfl
theorem comb7(h:op=7):C5 d m F x op n s rs=(BB rs 0).bind λa=>F (mIdx d s) a:=by subst h;rfl
theorem comb8(h:op=8):C5 d m F x op n s rs=(BB rs 0).bind λa=>AR (-a):=by subst h;rfl
theorem comb18(h:op=18):C5 d m F x op n s rs=(BB rs 0).bind λa=>.ok (1-a):=by subst h;rfl
theorem comb24(h:op=24):C5 d m F x op n s rs=(BB rs 0).bind λa=>.ok (Bv a):=by subst h;rfl
theorem comb19(h:op=19):C5 d m F x op n s rs=(BB rs 0).bind λa=>if a=0 then .ok 0 else BB rs 1:=by subst h;rfl
theorem comb20(h:op=20):C5 d m F x op n s rs=(BB rs 0).bind λa=>if a=0 then BB rs 1 else .ok 1:=by subst h;rfl
theorem comb21(h:op=21):C5 d m F x op n s rs=(BB rs 0).bind λa=>if a=0 then BB rs 2 else BB rs 1:=by subst h;rfl
theorem IQ(h:9<=op/\op<=23/\op≠18/\op≠19/\op≠20/\op≠21):C5 d m F x op n s rs=(BB rs 0).bind λa=>(BB rs 1).bind λb=>AC op a b:=by
 grind[C5]
end
end Go.Proofs
namespace Go.Proofs
open Go Go.Sx
structure An (d:Ds)(m:Mm):Prop where
 valid:A8 d=true
 chk:B0 d=none
 mem:BX d m=true
def VE(e:E):Prop:=∃k,BF k e=true
theorem VE.of_valid{e:E}(h:Bh e=true):VE e:=⟨1,(of_decide_eq_true h).1⟩
theorem okE_eq(k:Int)(e:E):BF k e=(decide (k<=60)&&CL e.op e.n e.s e.k.length&&okEs (k+1) e.k):=by cases e;unfold BF;rfl
theorem LA{k:Int}:∀{l:XY},okEs k l=true->∀x∈l,BF k x=true
 |[],_,x,g=>by cases g
 |e::l,h,x,g=>by
  unfold okEs at h;rw[zD]at h;rcases zJ.1 g with rfl|g;.exact h.1
  .exact LA h.2 x g
theorem VE.node{e:E}(h:VE e):CL e.op e.n e.s e.k.length=true:=by
 obtain⟨k,h⟩:=h;simp_all[okE_eq,zD]
theorem VE.kids{e:E}(h:VE e):∀x∈e.k,VE x:=by
 obtain⟨k,h⟩:=h;rw[okE_eq,zD]at h;exact λx g=>⟨_,LA h.2 x g⟩
theorem JZ(d:Ds)(sc:Sc):∀(k:XY)(acc:XN),(partsT d sc acc k).2=0->(∀x∈k,(Ao d sc x).2=0)/\(partsT d sc acc k).1=acc++k.map λx=>(Ao d sc x).1
 |[],acc,_=>by rw[HX];simp
 |x::xs,acc,h=>by
  rw[Hd]at h⊢;split at h;.omega
  .rename_i g;rw[if_neg g];obtain⟨z,y⟩:=JZ d sc xs _ h;simp_all
theorem J6{d:Ds}{sc:Sc}{e:E}{t:KB}(h:Ao d sc e=(t,0)):(∀x∈e.k,(Ao d sc x).2=0)/\EN d sc e.op e.s (e.k.map λx=>(Ao d sc x).1)=(t,0):=by
 grind[JM,zq,absurd,partsT,JZ]
theorem arityB{op n:Int}{s:KB}{l:Int}(h:CL op n s l=true):BD op≠-2/\(0<=BD op->l=BD op)/\Eo op s=true/\numB op n=true:=by
 grind[CL]
theorem list1{α:Type}{k:List α}(h:(k.length:Int)=1):∃a,k=[a]:=by
 match k,h with
 |[a],_=>grind
 |[],h=>simp at h
 |_::_::_,h=>simp at h;omega
theorem list2{α:Type}{k:List α}(h:(k.length:Int)=2):∃a b,k=[a,b]:=by
 match k,h with
 |[a,b],_=>simp_all
 |[],h=>simp at h
 |[_],h=>simp at h
 |_::_::_::_,h=>simp at h;omega
theorem list3{α:Type}{k:List α}(h:(k.length:Int)=3):∃a b c,k=[a,b,c]:=by
 match k,h with
 |[a,b,c],_=>simp_all
 |[],h=>simp at h
 |[_],h=>simp at h
 |[_,_],h=>simp at h
 |_::_::_::_::_,h=>simp at h;omega
theorem name_kw{s:KB}(h:Bg s=true):isKw s=false:=by
 grind[Bg]
theorem D1{s t:KB}(h:Bg s=true)(ht:isKw t=true):s≠t:=λe=>by grind[name_kw]
theorem kwNil:isKw Dm=true:=by kernel_rfl
theorem kwInt:isKw Ak=true:=by kernel_rfl
theorem kwBool:isKw Ay=true:=by kernel_rfl
theorem kwThis:isKw C3=true:=by kernel_rfl
theorem name_E{s:KB}(h:Bg s=true):s≠sE:=λe=>by
 rw[e]at h;have:Bg sE=false:=by rfl
 simp_all
section
variable{d:Ds}{m:Mm}
theorem GI(h:A8 d=true):(∀t∈d.types,Bg t.name=true)/\(∀f∈d.globals,Bg f.name=true)/\(∀x∈d.measures,DE x=true)/\(∀x∈d.invs,E5 x=true):=by
 grind[A8,FB,EL,Dc,fldB]
theorem F9(h:A8 d=true){s:KB}(g:BK d s=true):Bg s=true:=by
 obtain⟨t,ht,e⟩:=List.any_eq_true.1 g;rw[<-of_decide_eq_true e];exact(GI h).1 t ht
def AX(d:Ds)(m:Mm)(t:KB)(v:Int):Prop:=if t=Dm then v=0 else AW d m t v=true
theorem IS:Dm≠Ak/\Dm≠Ay/\Ak≠Dm/\Ay≠Dm/\Ak≠Ay/\Ay≠Ak:=by
 refine⟨of_decide_eq_false ?_,of_decide_eq_false ?_,of_decide_eq_false ?_,of_decide_eq_false ?_,of_decide_eq_false ?_,of_decide_eq_false ?_⟩<;>kernel_rfl
theorem Cw{v:Int}:AX d m Ak v↔-1099511627776<=v/\v<=1099511627776:=by
 unfold AX AW;rw[if_neg IS.2.2.1,if_pos rfl,decide_eq_true_eq]
theorem C6{v:Int}:AX d m Ay v↔v=0∨v=1:=by
 unfold AX AW;rw[if_neg IS.2.2.2.1,if_neg IS.2.2.2.2.2,if_pos rfl,decide_eq_true_eq]
theorem Fb(h:A8 d=true){t:KB}(ht:known d t=true){v:Int}:AX d m t v↔AW d m t v=true:=by
 unfold AX;rw[if_neg];intro e;subst e;unfold known at ht;rw[decide_eq_false IS.1,decide_eq_false IS.2.1]at ht;exact D1 (F9 h (by simpa using ht)) kwNil rfl
theorem Nv{t:KB}(h:Bg t=true):AW d m t 0=true:=by
 unfold AW;rw[if_neg (D1 h kwInt),if_neg (D1 h kwBool)];exact decide_eq_true (.inl rfl)
theorem Ey(h:A8 d=true){a b:KB}(hf:Bt d a b=true){v:Int}(hv:AX d m a v):AX d m b v:=by
 unfold Bt at hf;simp only[yz,zD,decide_eq_true_eq]at hf;rcases hf with rfl|⟨rfl,hb⟩;.exact hv
 .have hn:=F9 h hb;unfold AX at hv⊢;rw[if_pos rfl]at hv;rw[if_neg (D1 hn kwNil),hv];exact Nv hn
def This(d:Ds)(m:Mm)(T:KB)(x:Int):Prop:=(T=sE/\x=0)∨(BK d T=true/\x≠0/\AW d m T x=true)
theorem IT:∀(l:XX)(s:KB),Bn l s=((l.find? λf=>decide (f.name=s)).map (·.ty)).getD sE
 |[],_=>rfl
 |f::l,s=>by
  unfold Bn;rw[wE];by_cases h:f.name=s;.simp_all
  .rw[if_neg h,decide_eq_false h,IT l s]
theorem Hj(l:XX)(s:KB):(Bn l s=sE/\Bu l s=-1)∨∃(i:Nat)(f:Fld),Bu l s=i/\l[i]?=some f/\Bn l s=f.ty/\f.name=s:=by
 rw[IT];unfold Bu;rcases Cv (λf:Fld=>decide (f.name=s)) l with⟨g,z,-⟩|⟨i,x,g,z,y,-,q,-⟩;.grind
 grind
theorem Fc(h:hasT d=true):D0 d d.globals=true/\(∀(i:Nat)(x:Ty),d.types[i]?=some x->BA d x.name=(i:Int))/\∀x∈d.types,D0 d x.fields=true:=by
 unfold hasT at h;rw[zD,zD,GG]at h;obtain⟨⟨-,z⟩,y⟩:=h;refine⟨z,λi x g=>?_,λx g=>?_⟩;.grind
 .obtain⟨i,hi,rfl⟩:=xE.1 g;have:=y i _ (yf hi);simp_all
theorem BR(h:BX d m=true):hasT d=true/\m.nodes.length<=4096/\(∀n∈m.nodes,Eg d n=true)/\AE d m d.globals m.globals=true/\∀n∈m.nodes,AE d m (B3 d n.ty) n.f=true:=by
 grind[BX]
theorem IU{l:XX}{vs:XZ}(h:AE d m l vs=true){i:Nat}{f:Fld}(hi:l[i]?=some f):∃v,vs[i]?=some v/\AW d m f.ty v=true:=by
 unfold AE at h;rw[zD,decide_eq_true_eq,GG]at h;have hl:=(List.getElem?_eq_some_iff.1 hi).1;have hv:vs[i]?=some (vs[i]'(by omega)):=yf _;grind[tyAt]
theorem LB{t:KB}(hn:Bg t=true){a:Int}(h:AW d m t a=true)(q:a≠0):1<=a/\a<=(m.nodes.length:Int)/\∃n,m.nodes[(a-1).toNat]?=some n/\n∈m.nodes/\n.ty=BA d t:=by
 unfold AW at h;rw[if_neg (D1 hn kwInt),if_neg (D1 hn kwBool),decide_eq_true_eq]at h;rcases h with h|⟨y,l,g⟩;.omega
 .refine⟨y,l,?_⟩;cases z:m.nodes[(a-1).toNat]? with
  |none=>simp_all
  |some n=>rw[z]at g;exact⟨n,rfl,xw z,by simpa using g⟩
theorem tyOf_idx{s:KB}{t:Ty}(h:tyOf d s=some t):∃i:Nat,BA d s=(i:Int)/\d.types[i]?=some t/\t.name=s/\BK d s=true:=by
 unfold tyOf at h;unfold BA BK;rcases Cv (λt:Ty=>decide (t.name=s)) d.types with⟨-,g,-⟩|⟨i,x,z,g,y,-,l,-,h7,-⟩;.simp_all
 grind
theorem fld_ok(G:An d m){t s ty:KB}(ht:Dd d t s=(ty,0)){a:Int}(ha:AX d m t a)(I:a≠0):
  ∃(n:Nd)(i j:Nat)(g:Ty)(f:Fld)(v:Int),m.nodes[(a-1).toNat]?=some n/\n∈m.nodes/\1<=a/\a<=(m.nodes.length:Int)/\n.ty=(j:Int)/\d.types[j]?=some g/\g∈d.types/\Bu g.fields s=i/\g.fields[i]?=some f/\n.f[i]?=some v/\AX d m ty v/\fldV d m a s=.ok v/\f.ty=ty:=by
 unfold Dd at ht;cases o:tyOf d t with
 |none=>simp_all
 |some g=>
  rw[o]at ht;simp only at ht;split at ht;.simp at ht
  .rename_i hl;simp only[zq,and_true]at ht;obtain⟨j,W,y,rfl,l⟩:=tyOf_idx o;have q:=F9 G.valid l;have p:AW d m g.name a=true:=by
    grind[AX]
   obtain⟨b1,b2,n,b3,b4,b5⟩:=LB q p I;rcases Hj g.fields s with⟨A,-⟩|⟨i,f,A,c2,c3,c4⟩;.grind
   .have J:B3 d n.ty=g.fields:=Ew y (b5.trans W);obtain⟨p1,-,-,-,M⟩:=BR G.mem;have hv:=M n b4;rw[J]at hv;obtain⟨v,N,Z⟩:=IU hv c2;have z:=xw y;have Y:known d f.ty=true:=yK.1 ((Fc p1).2.2 g z) f (xw c2);refine⟨n,i,j,g,f,v,b3,b4,b1,b2,b5.trans W,y,z,A,c2,N,?_,?_,c3.symm.trans ht⟩;.rw[<-ht,c3];exact(Fb G.valid Y).2 Z
    simp_all[fldV,if_neg,wH]
theorem var_ok(G:An d m){T s t:KB}{x:Int}(J:This d m T x)(ht:Bn (AM d T).vars s=t)(hne:t≠sE):
  (s=C3/\AX d m t x/\T=t)∨(s≠C3/\∃(i:Nat)(f:Fld)(v:Int),Bu d.globals s=i/\d.globals[i]?=some f/\m.globals[i]?=some v/\AX d m t v/\varV d m x s=v/\f.ty=t):=by
 obtain⟨p1,-,-,N,-⟩:=BR G.mem;unfold AM at ht;by_cases y:s=C3
 .left;refine⟨y,?_⟩;rcases J with⟨rfl,rfl⟩|⟨Z,Y,W⟩
  .rw[if_pos rfl,zO,y]at ht;rcases Hj d.globals C3 with⟨l,-⟩|⟨i,f,-,c2,-,c4⟩;.simp_all
   .have:=(GI G.valid).2.1 f (xw c2);rw[c4]at this;exact absurd rfl (D1 this kwThis)
  .have g:=F9 G.valid Z;rw[if_neg (name_E g),y]at ht;simp_all[List.singleton_append,Bn,if_true,AX,if_neg,D1,kwNil]
 .right;refine⟨y,?_⟩;have z:Bn d.globals s=t:=by
   grind[Bn]
  rcases Hj d.globals s with⟨l,-⟩|⟨i,f,l,c2,c3,-⟩;.simp_all
  .obtain⟨v,q,o⟩:=IU N c2;have p:known d f.ty=true:=yK.1 (Fc p1).1 f (xw c2);refine⟨i,f,v,l,c2,q,?_,?_,c3.symm.trans z⟩;.rw[<-z,c3];exact(Fb G.valid p).2 o
   grind[varV]
theorem GJ{α β:Type}{f:Nat->α->Option β}:∀{l:List α}{i:Nat},Aq f i l=none->∀j x,l[j]?=some x->f (i+j) x=none
 |[],_,_,j,x,g=>by simp at g
 |y::l,i,h,j,x,g=>by
  unfold Aq at h;cases z:f i y with
  |some b=>simp_all
  |none=>
   rw[z]at h;cases j with
   |zero=>simp_all
   |succ j=>rw[show i+(j+1)=i+1+j by omega];exact GJ h j x (by simpa using g)
theorem ER{α:Type}{a b:Option α}(h:a.or b=none):a=none/\b=none:=by
 simp_all
theorem IV(h:B0 d=none):(∀x∈d.measures,BK d x.ty=true/\Ao d (AM d x.ty) x.x=(Ak,0))/\(∀x∈d.invs,(x.ty=sE∨BK d x.ty=true)/\Ao d (AM d x.ty) x.x=(Ay,0)):=by
 unfold B0 at h;obtain⟨-,h⟩:=ER h;obtain⟨-,h⟩:=ER h;obtain⟨hf,h⟩:=ER h;obtain⟨-,h⟩:=ER h;unfold Dn at hf;obtain⟨y,hf⟩:=ER hf;obtain⟨f2,-⟩:=ER hf;unfold Eu at h;obtain⟨l,h⟩:=ER h;obtain⟨q,-⟩:=ER h;have z:∀{sc:Sc}{e:E}{t:KB},Ba d sc e t=0->Ao d sc e=(t,0):=λ{sc e t} h=>by
  grind[Ba,absurd]
 refine⟨λx g=>?_,λx g=>?_⟩
 .obtain⟨i,hi,rfl⟩:=xE.1 g;have a1:=GJ y i _ (yf hi);have a2:=GJ l i _ (yf hi);grind
 .obtain⟨i,hi,rfl⟩:=xE.1 g;have a1:=GJ f2 i _ (yf hi);have a2:=GJ q i _ (yf hi);grind
end
section
variable{d:Ds}{m:Mm}
theorem J7{f:E->Rs}{k:XY}{i:Nat}{e:E}(h:k[i]?=some e):BB (k.map f) i=f e:=by
 grind[BB]
theorem Fe{r:Rs}{f:Int->Rs}{v:Int}(h:r.bind f=.ok v):∃a,r=.ok a/\f a=.ok v:=by
 cases r with
 |ok a=>exact⟨a,rfl,h⟩
 |bad e=>cases h
theorem big_ok{n v:Int}(h:AR n=.ok v):v=n/\-1099511627776<=v/\v<=1099511627776:=by
 unfold AR at h;grind
theorem trI_b(b:Bool):De b=0∨De b=1:=by cases b<;>simp[De]
theorem Ez{ok:Bool}{t g:KB}(h:C2 ok t=(g,0)):ok=true/\t=g:=by
 grind[C2]
theorem H4{a b:Int}(ha:-1099511627776<=a/\a<=1099511627776):-1099511627776<=a.tdiv b/\a.tdiv b<=1099511627776:=by
 have:=Int.natAbs_tdiv_le_natAbs a b;omega
theorem tmod_in{a b:Int}(ha:-1099511627776<=a/\a<=1099511627776):-1099511627776<=a.tmod b/\a.tmod b<=1099511627776:=by
 have g:=Int.natAbs_tmod a b;have:=Nat.mod_le a.natAbs b.natAbs;omega
theorem log_in{a:Int}(ha:a<=1099511627776):0<=Bv a/\Bv a<=1099511627776:=by
 grind[Bv,Nat.log2,Nat.log2_le_self]
inductive Kind (d:Ds)(sc:Sc)(e:E):KB->Prop where
 |int (h:e.op=1) (hn:0<=e.n/\e.n<=1099511627776):Kind d sc e Ak
 |bool (h:e.op=2) (hn:e.n=0∨e.n=1):Kind d sc e Ay
 |nil (h:e.op=3) (hn:e.n=0):Kind d sc e Dm
 |var {t} (h:e.op=4) (hl:Bn sc.vars e.s=t) (hne:t≠sE):Kind d sc e t
 |fld {t u} {a:E} (h:e.op=5) (hk:e.k=[a]) (ha:Ao d sc a=(u,0)) (ht:Dd d u e.s=(t,0)):Kind d sc e t
 |call {u} {a:E} {ms:Ms} {i:Nat} (h:e.op=7) (hk:e.k=[a]) (ha:Ao d sc a=(u,0)) (hi:mIdx d e.s=i) (hms:d.measures[i]?=some ms) (hf:Bt d u ms.ty=true):Kind d sc e Ak
 |neg {a:E} (h:e.op=8) (hk:e.k=[a]) (ha:Ao d sc a=(Ak,0)):Kind d sc e Ak
 |not {a:E} (h:e.op=18) (hk:e.k=[a]) (ha:Ao d sc a=(Ay,0)):Kind d sc e Ay
 |log {a:E} (h:e.op=24) (hk:e.k=[a]) (ha:Ao d sc a=(Ak,0)):Kind d sc e Ak
 |and {a b:E} (h:e.op=19) (hk:e.k=[a,b]) (ha:Ao d sc a=(Ay,0)) (hb:Ao d sc b=(Ay,0)):Kind d sc e Ay
 |or {a b:E} (h:e.op=20) (hk:e.k=[a,b]) (ha:Ao d sc a=(Ay,0)) (hb:Ao d sc b=(Ay,0)):Kind d sc e Ay
 |cond {a b c:E} {t u w} (h:e.op=21) (hk:e.k=[a,b,c]) (ha:Ao d sc a=(Ay,0)) (hb:Ao d sc b=(u,0)) (hc:Ao d sc c=(w,0)) (hu:u=t∨Bt d u t=true) (hw:w=t∨Bt d w t=true):Kind d sc e t
 |eq {a b:E} {u w} (h:e.op=14∨e.op=15) (hk:e.k=[a,b]) (ha:Ao d sc a=(u,0)) (hb:Ao d sc b=(w,0)):Kind d sc e Ay
 |cmp {a b:E} (h:e.op=16∨e.op=17) (hk:e.k=[a,b]) (ha:Ao d sc a=(Ak,0)) (hb:Ao d sc b=(Ak,0)):Kind d sc e Ay
 |ari {a b:E} (h:e.op=9∨e.op=10∨e.op=11∨e.op=12∨e.op=13∨e.op=22∨e.op=23) (hk:e.k=[a,b]) (ha:Ao d sc a=(Ak,0)) (hb:Ao d sc b=(Ak,0)):Kind d sc e Ak
theorem allT1{t u:KB}(h:allT [t] u=true):t=u:=by simpa [allT]using h
theorem allT2{t g u:KB}(h:allT [t,g] u=true):t=u/\g=u:=by simpa [allT]using h
theorem Bw{p:KB×Int}{t:KB}(g:p.1=t)(z:p.2=0):p=(t,0):=Prod.ext g z
theorem kind{sc:Sc}(A:sc.body=false){e:E}{t:KB}(hv:VE e)(ht:Ao d sc e=(t,0)):Kind d sc e t:=by
 obtain⟨hk,hn⟩:=J6 ht;obtain⟨a1,a2,a3,l⟩:=arityB hv.node;unfold EN at hn;unfold numB at l;have one:BD e.op=1->∃a,e.k=[a]:=λh=>list1 ((a2 (by omega)).trans h);have q:BD e.op=2->∃a b,e.k=[a,b]:=λh=>list2 ((a2 (by omega)).trans h);have N:BD e.op=3->∃a b c,e.k=[a,b,c]:=λh=>list3 ((a2 (by omega)).trans h);by_cases I:e.op=1
 .rw[if_pos I]at hn l;cases hn;exact .int I (of_decide_eq_true l)
 rw[if_neg I]at hn l;by_cases M:e.op=2
 .rw[if_pos M]at hn l;cases hn;exact .bool M (of_decide_eq_true l)
 rw[if_neg M]at hn l;have l:e.n=0:=of_decide_eq_true l;by_cases X:e.op=3
 .rw[if_pos X]at hn;cases hn;exact .nil X l
 rw[if_neg X]at hn;by_cases B:e.op=4
 .rw[if_pos B]at hn;split at hn;.simp at hn
  .rename_i hne;simp only[zq,and_true]at hn;exact .var B hn (hn▸hne)
 rw[if_neg B]at hn;by_cases W:e.op=5
 .obtain⟨a,ha⟩:=one (by rw[W];rfl);rw[if_pos W,ha]at hn;rw[ha]at hk;exact .fld W ha (Bw rfl (hk a (by simp))) hn
 rw[if_neg W]at hn;by_cases h6:e.op=6;.simp_all
 rw[if_neg h6]at hn;by_cases h7:e.op=7
 .rw[if_pos h7]at hn;unfold E6 at hn;rw[if_neg (by rw[A];decide)]at hn;unfold FC meOf at hn;unfold mIdx at*
  rcases Cv (λx:Ms=>decide (x.name=e.s)) d.measures with⟨-,D,-⟩|⟨i,ms,q1,D,q3,-⟩;.simp_all
  .rw[q3]at hn;simp only at hn;split at hn;.simp at hn
   .rename_i hl;obtain⟨a,ha⟩:∃a,e.k=[a]:=list1 (by grind);rw[ha]at hn hk;obtain⟨b1,rfl⟩:=Ez hn;exact .call h7 ha (Bw rfl (hk a (by simp))) q1 D (by simpa using b1)
 rw[if_neg h7]at hn;by_cases o:e.op=14∨e.op=15
 .obtain⟨a,b,z⟩:=q (by rcases o with h|h<;>(rw[h];rfl));rw[if_pos o]at hn;rw[z]at hk;obtain⟨-,rfl⟩:=Ez hn;exact .eq o z (Bw rfl (hk a (by simp))) (Bw rfl (hk b (by simp)))
 rw[if_neg o]at hn;by_cases p:e.op=16∨e.op=17
 .obtain⟨a,b,z⟩:=q (by rcases p with h|h<;>(rw[h];rfl));rw[if_pos p,z]at hn;rw[z]at hk;obtain⟨g,rfl⟩:=Ez hn;obtain⟨Y,G⟩:=allT2 g;exact .cmp p z (Bw Y (hk a (by simp))) (Bw G (hk b (by simp)))
 rw[if_neg p]at hn;by_cases Z:e.op=18∨e.op=19∨e.op=20
 .rw[if_pos Z]at hn;rcases Z with h|h
  .obtain⟨a,ha⟩:=one (by rw[h];rfl);rw[ha]at hn hk;obtain⟨g,rfl⟩:=Ez hn;exact .not h ha (Bw (allT1 g) (hk a (by simp)))
  .obtain⟨a,b,z⟩:=q (by rcases h with h|h<;>(rw[h];rfl));rw[z]at hn hk;obtain⟨g,rfl⟩:=Ez hn;obtain⟨Y,G⟩:=allT2 g;rcases h with h|h;.exact .and h z (Bw Y (hk a (by simp))) (Bw G (hk b (by simp)))
   .exact .or h z (Bw Y (hk a (by simp))) (Bw G (hk b (by simp)))
 rw[if_neg Z]at hn;by_cases J:e.op=21
 .obtain⟨a,b,c,y⟩:=N (by rw[J];rfl);rw[if_pos J,y]at hn;rw[y]at hk;obtain⟨g,G⟩:=Ez hn;simp only[zI,List.map_nil,List.getD_cons_zero,List.getD_cons_succ,zD,decide_eq_true_eq,yz]at g G;refine .cond J y (Bw g.1 (hk a (by simp))) (Bw rfl (hk b (by simp))) (Bw rfl (hk c (by simp))) ?_ ?_;.grind[inr,Bt]
  grind[Bt,absurd,inr]
 rw[if_neg J]at hn;obtain⟨g,rfl⟩:=Ez hn;have C:e.op=8∨e.op=24∨(e.op=9∨e.op=10∨e.op=11∨e.op=12∨e.op=13∨e.op=22∨e.op=23):=by
  grind[BD]
 rcases C with h|h|h
 .obtain⟨a,ha⟩:=one (by rw[h];rfl);rw[ha]at g hk;exact .neg h ha (Bw (allT1 g) (hk a (by simp)))
 .obtain⟨a,ha⟩:=one (by rw[h];rfl);rw[ha]at g hk;exact .log h ha (Bw (allT1 g) (hk a (by simp)))
 .obtain⟨a,b,z⟩:=q (by rcases h with h|h|h|h|h|h|h<;>(rw[h];rfl));rw[z]at g hk;obtain⟨Y,G⟩:=allT2 g;exact .ari h z (Bw Y (hk a (by simp))) (Bw G (hk b (by simp)))
theorem two_ok{op a b v:Int}(h:op=9∨op=10∨op=11∨op=12∨op=13∨op=22∨op=23)(ha:-1099511627776<=a/\a<=1099511627776)(hb:-1099511627776<=b/\b<=1099511627776)(hv:AC op a b=.ok v):-1099511627776<=v/\v<=1099511627776:=by
 unfold AC at hv;split at hv;.exact(big_ok hv).2
 split at hv;.exact(big_ok hv).2
 split at hv;.exact(big_ok hv).2
 split at hv;.grind
 split at hv;.grind
 repeat' (split at hv;(first|omega|cases hv))
 .exact H4 ha
 .cases hv;exact tmod_in ha
theorem J8{op a b v:Int}(h:op=14∨op=15∨op=16∨op=17)(hv:AC op a b=.ok v):v=0∨v=1:=by
 rcases h with rfl|rfl|rfl|rfl
 .have:De (decide (a=b))=v:=by injection hv
  grind[trI_b]
 .have:De (!decide (a=b))=v:=by injection hv
  grind[trI_b]
 .have:De (decide (a<b))=v:=by injection hv
  grind[trI_b]
 .have:De (decide (a<=b))=v:=by injection hv
  grind[trI_b]
theorem Nw(G:An d m){F:Int->Int->Rs}(N:∀(i:Nat) ms x v,d.measures[i]?=some ms->AX d m ms.ty x->F i x=.ok v->AX d m Ak v){T:KB}{x:Int}(Z:This d m T x):
  ∀(e:E)(t:KB)(v:Int),VE e->Ao d (AM d T) e=(t,0)->Au d m F x e=.ok v->AX d m t v:=by
 intro e;induction e using E.ind with
 |h e Y=>
 intro t v hv ht g;rw[GH]at g;have k0:∀{a:E}{l:XY},e.k=a::l->BB (e.k.map (Au d m F x)) 0=Au d m F x a:=λh=>J7 (by rw[h];rfl);have J:∀{a b:E}{l:XY},e.k=a::b::l->BB (e.k.map (Au d m F x)) 1=Au d m F x b:=λh=>J7 (by rw[h];rfl);have W:∀{a b c:E}{l:XY},e.k=a::b::c::l->BB (e.k.map (Au d m F x)) 2=Au d m F x c:=λh=>J7 (by rw[h];rfl);have y:∀{a:E}{l:XY},e.k=a::l->a∈e.k:=λh=>by rw[h];simp
 have o:∀{a b:E}{l:XY},e.k=a::b::l->b∈e.k:=λh=>by rw[h];simp
 have p:∀{a b c:E}{l:XY},e.k=a::b::c::l->c∈e.k:=λh=>by rw[h];simp
 have I:∀{a:E}{u:KB}{w:Int},a∈e.k->Ao d (AM d T) a=(u,0)->Au d m F x a=.ok w->AX d m u w:=λhm ha hw=>Y _ hm _ _ (hv.kids _ hm) ha hw;cases kind (d:=d) (sc:=AM d T) rfl hv ht with
 |int h hn=>
  grind[comb1,Cw]
 |bool h hn=>
  grind[comb1,inr,C6]
 |nil h hn=>
  rw[comb3 h]at g;injection g with g
  unfold AX;rw[if_pos rfl];exact g.symm
 |var h hl hne=>
  rw[comb4 h]at g;injection g with g
  rcases var_ok G Z hl hne with⟨q,z,-⟩|⟨q,i,f,v',z,M,X,B,h6,-⟩;.grind[varV]
  simp_all
 |fld h hk ha hf=>
  rw[comb5 h,k0 hk]at g;obtain⟨a,q,z⟩:=Fe g;have A:=I (y hk) ha q;by_cases C:a=0;.grind[fldV]
  grind[fld_ok]
 |call h hk ha hi hms hf=>
  rw[comb7 h,k0 hk,hi]at g;obtain⟨a,q,z⟩:=Fe g;exact N _ _ _ _ hms (Ey G.valid hf (I (y hk) ha q)) z
 |neg h hk ha=>
  grind[comb8,Fe,Cw,big_ok]
 |not h hk ha=>
  grind[comb18,Fe,C6]
 |log h hk ha=>
  rw[comb24 h,k0 hk]at g;obtain⟨a,q,z⟩:=Fe g;cases z;have:=Cw.1 (I (y hk) ha q);have:=log_in (a:=a) this.2;rw[Cw];omega
 |and h hk ha hb=>
  rw[comb19 h,k0 hk,J hk]at g;obtain⟨a,q,z⟩:=Fe g;grind
 |or h hk ha hb=>
  rw[comb20 h,k0 hk,J hk]at g;obtain⟨a,q,z⟩:=Fe g;split at z;.grind
  .cases z;rw[C6];exact .inr rfl
 |cond h hk ha hb hc hu hw=>
  rw[comb21 h,k0 hk,J hk,W hk]at g;obtain⟨a,q,z⟩:=Fe g;split at z
  .have:=I (p hk) hc z;rcases hw with rfl|hw;.exact this
   .exact Ey G.valid hw this
  .have:=I (o hk) hb z;rcases hu with rfl|hu;.exact this
   .exact Ey G.valid hu this
 |eq h hk ha hb=>
  grind[IQ,Fe,C6,J8]
 |cmp h hk ha hb=>
  grind[IQ,Fe,C6,J8]
 |ari h hk ha hb=>
  rw[IQ (by omega),k0 hk,J hk]at g;grind[Fe,Cw,two_ok]
theorem J9{x:Ms}(h:DE x=true):Bg x.ty=true/\(-1099511627776<=x.nil/\x.nil<=1099511627776)/\VE x.x:=by
 simp_all[DE,zD,decide_eq_true_eq,VE.of_valid]
theorem sound_M(G:An d m):∀(n:Nat)(i:Nat) ms x v,d.measures[i]?=some ms->AX d m ms.ty x->Al d m n i x=.ok v->AX d m Ak v:=by
 intro n;have z:∀(i:Nat) ms,d.measures[i]?=some ms->AX d m Ak (nilM d i):=λi ms h=>by
  rw[Cw];unfold nilM;rw[wH,h];exact(J9 ((GI G.valid).2.2.1 ms (xw h))).2.1
 induction n with
 |zero=>
  grind[Al]
 |succ n y=>
  intro i ms x v hms p hv;rw[Al]at hv;split at hv;.grind
  .rename_i l;rw[wH,hms]at hv;simp only at hv;have g:=xw hms;obtain⟨q,c2⟩:=(IV G.chk).1 ms g;have o:This d m ms.ty x:=.inr ⟨q,l,by
    grind[AX]⟩
   exact Nw G y o ms.x Ak v (J9 ((GI G.valid).2.2.1 ms g)).2.2 c2 hv
theorem sound(G:An d m){T:KB}{x:Int}(g:This d m T x){e:E}{t:KB}{v:Int}(hv:VE e)(ht:Ao d (AM d T) e=(t,0)){n:Nat}(z:Au d m (Al d m n) x e=.ok v):AX d m t v:=
 Nw G (sound_M G n) g e t v hv ht z
end
end Go.Proofs
namespace Go.Sx
open Go
def AB(r:XU):Fence:={wJ with round:=r}
section
variable{P:Program}{r:XU}{n:Nat}
theorem LC{f:FuncId}{args:XQ}{w:World}{R:Ending->World->Prop}:CallsIn (AB r) n P f args w R↔Calls P f args w R:=callsIn_wide (n:=n)
theorem rowsIn_wideR{row:String}{args:XQ}{w:World}{R:Value->World->Prop}(h:Rows P row args w R):RowsIn (AB r) n P row args w R:=λc cs _=>
 let⟨v,w',q,s⟩:=h c cs
 ⟨v,w',q,stepsIn_wide.2 s⟩
theorem Ny{o:Oper}{a:Act}{w:World}{next:Act->World->Prop}{Q:Exit->Act->World->Prop}(g:∀c,o.op≠.defer c)(h:o.wp P a w next Q):o.wpIn (AB r) n P a w next Q:=by
 refine⟨λ_ _=>trivial,?_⟩;rw[Oper.semAt_eq _ _ _ g];unfold Oper.wp at h;revert h;generalize(execOp a.eval o).run P w=res;intro h;cases res with
 |ok x w'=>
  cases x with
  |enter f args=>exact⟨λh=>by simp[AB,wJ]at h,LC.2 h⟩
  |row row args=>exact⟨λh=>by simp[AB,wJ]at h,rowsIn_wideR h⟩
  |value v=>exact h
  |skip=>exact h
  |defer d=>exact h
  |_=>exact h.elim
 |halt x w'=>cases x<;>first|exact h|exact h.elim
def Ka:Op->Bool
 |.defer _=>false
 |_=>true
theorem LD{o:Op}(h:Ka o=true):∀c,o≠.defer c:=λc e=>by subst e;cases h
def Ff:Code->Bool
 |.region _ g _=>g.all λo=>Ka o.op
 |.seq x y=>Ff x&&Ff y
 |.block _ b=>Ff b
 |.cond _ x y=>Ff x&&Ff y
 |.loop b=>Ff b
 |_=>true
theorem Nz{ops:XW}{Q:Exit->Act->World->Prop}(y:¬LetsOut Q)(G:∀o∈ops,∀c,o.op≠.defer c)(l:List Oper):∀k,(∀j,j<l.length->l[j]?=ops[k+j]?)->∀a w,wpList P ops Q l a w->
  wpOpsIn (AB r) n P ops Q (wK k l.length) a w:=by
 induction l with
 |nil=>grind[wpOpsIn,wpList]
 |cons o l q=>
  intro k h a w hw;have p:ops[k]?=some o:=by simpa using(h 0 (by simp)).symm
  have g:=q (k+1) (λj J=>by have:=h (j+1) (by simpa using J);grind);simp only[List.length_cons,List.range'_succ,wpOpsIn,p];simp only[wpList]at hw;split
  .rename_i z;rw[if_pos z]at hw;grind[Ny,wL,Oper.wp_mono]
  .rename_i z;rw[if_neg z]at hw;exact⟨λ_ _=>trivial,g _ _ hw⟩
theorem Qt{ops:XW}{Q:Exit->Act->World->Prop}(z:¬LetsOut Q)(J:∀o∈ops,∀c,o.op≠.defer c){md:Region.Mode}:∀fuel listed a w,wpAny P md ops Q fuel listed a w->
  wpAnyIn (AB r) n P md ops Q fuel listed a w:=by
 intro fuel;induction fuel with
 |zero=>exact λ_ _ _ h=>h
 |succ fuel y=>
  rintro listed a w ⟨l,q⟩;refine⟨l,λi hi=>?_⟩;have:=q i hi;unfold wpOp at this;unfold wpOpIn;split;.simp_all
  .rename_i o p;simp only[p]at this;split
   .rename_i g;rw[if_pos g]at this;grind[Ny,wL,Oper.wp_mono]
   .rename_i g;rw[if_neg g]at this;exact⟨λ_ _=>trivial,y _ _ _ this⟩
end
open Classical in
theorem NA{P:Program}{F:Fence}{g:Nat}{c:Code}{Q:Exit->Act->World->Prop}{a:Act}{w:World}(Inv:Nat->Act->World->Prop)(l:∃n,Inv n a w)
  (round:∀n a w,Inv n a w->c.wpIn F g P (Exit.then (λz w'=>∃y,y<n/\Inv y z w') Q) a w):(Code.loop c).wpIn F g P Q a w:=by
 let m:Act->World->Nat:=λa w=>if h:∃n,Inv n a w then Classical.choose (Ld _ h)else 0
 have hm:∀a w (h:∃n,Inv n a w),Inv (m a w) a w/\∀k,Inv k a w->m a w<=k:=λa w h=>by
  grind
 refine wpIn_loop (λa w=>∃n,Inv n a w) m l λa w o=>?_;obtain⟨p,J⟩:=hm a w o;refine wpIn_mono (round _ a w p) (λe z w' q=>?_);grind
section
variable{all:XW}{k:St->Tr}{Q:Exit->Act->World->Prop}
variable{P:Program}{R:Ending->Mem->Prop}{V0:Mem}{w0:World}{L:List (KZ)}{ρ0:XV}{fs:XA}{H:Cj}
theorem Qu(g:DV P fs){st:St}{a:Act}{w:World}(I:Fu R V0 w0 a.defers Q)(h:A2 P R Dj V0 w0 H.N L ρ0 a.tmps w st (Is P fs H all st k))
  (q:LetsOut (λ(_:Exit) (_:Act) (_:World)=>False)->LetsOut Q)
  (hk:∀l p w',p.defers=a.defers->A2 P R Dj V0 w0 H.N L ρ0 p.tmps w' l (k l)->Q .normal p w'):wpAny P .any all Q all.size (wM all.size false) a {w with drawn:=w.drawn+1}:=by
 unfold Is at h;simp only at h;obtain⟨β,ρ,V,hp,M,J⟩:=h;split at J;case isFalse=>exact J.elim
 rename_i hc;simp only[zD,yK]at hc;obtain⟨G,Z⟩:=hc;obtain⟨Y,X,A,W,B⟩:=MU G;have y:∀j d,j<all.size->(wM all.size false).getD j d=false:=λj d z=>by simp_all
 refine(any_sound g Y (λi o C=>Z o (by grind)) I q hk all.size (List.range all.size) (HG all (Cb all.toList []) all.size 0) [] st _ a _ a [] Dj (λx=>x) ?_ rfl List.nodup_range (by simp) λj=>?_)
 .exact
  {lsize:=by simp
   closed:=λj D z hl=>by
    rw[y j _ (yN.1 z).1]at hl;cases hl
   chain:=B
   nd:=A
   bound:=W
   unl:=λj z _=>.inr (nodup_all A W X z)
   pu:=λj z=>by cases z
   ru:=λj z=>.inl (y j _ (W j z))
   boi:=λi hi j z hl=>by omega
   fsize:=rfl
   fdef:=rfl
   fill:=λs _=>rfl
   goes:=⟨_,β,ρ,V,hp,M.drawn _,J⟩}
 simp_all
end
section
variable{P:Program}{R:Ending->Mem->Prop}{O V0:Mem}{w0:World}{fs:XA}{H:Cj}
theorem noOut(Q:Exit->Act->World->Prop):¬LetsOut (λe g w'=>e≠.outgrown/\Q e g w'):=λ⟨_,_,h⟩=>h.1 rfl
theorem H5{x y:Bool}(h:(x&&y)=true):x=true:=by simp_all
theorem nd2{x y:Bool}(h:(x&&y)=true):y=true:=by simp_all
theorem ndOps{id:Nat}{ops:XW}{d:Bool}(h:Ff (.region id ops d)=true):∀o∈ops,Ka o.op=true:=by
 grind[Ff,wN]
theorem ex_sound_in{r:XU}{n₀:Nat}(W:DV P fs)(hm:P.follows .mixedOrders=true):∀(c:Code),Ff c=true->∀(L:List (KZ))(ρ0:XV)(st:St)(k:Ex->St->Tr)(a:Act)(w:World)(Q:Exit->Act->World->Prop),
  Fu R V0 w0 a.defers Q->A2 P R Dj V0 w0 H.N L ρ0 a.tmps w st (ex P fs H c st k)->
  (∀e g z w' B,L<+:B->z.defers=a.defers->A2 P R Dj V0 w0 H.N B ρ0 z.tmps w' g (k e g)->Q e.toExit z w')->c.wpIn (AB r) n₀ P Q a w:=by
 intro c;induction c with
 |skip=>intro nd L ρ0 st k a w Q q h hk;exact wpIn_skip (hk .normal st a w L (yh _) rfl h)
 |ret=>intro nd L ρ0 st k a w Q q h hk;exact wpIn_ret (hk .ret st a w L (yh _) rfl h)
 |exit id=>intro nd L ρ0 st k a w Q q h hk;exact wpIn_exit (hk (.exit id) st a w L (yh _) rfl h)
 |seq x y C K=>
  intro nd L ρ0 st k a w Q q h hk;refine wpIn_seq (C (H5 nd) L ρ0 st _ a w _ q h λe g z w' B hL G Z=>?_);cases e with
  |normal=>exact K (nd2 nd) B ρ0 g k z w' Q (by grind) Z λe st'' a'' w'' L'' hL' hd' hg'=>hk e st'' a'' w'' L'' (hL.trans hL') (hd'.trans G) hg'
  |exit i=>exact hk (.exit i) g z w' B hL G Z
  |ret=>exact hk .ret g z w' B hL G Z
 |block id b ih=>
  intro nd L ρ0 st k a w Q q h hk;refine wpIn_block (ih nd L ρ0 st _ a w _ q h λe g z w' B hL G Z=>?_);cases e with
  |normal=>exact hk .normal g z w' B hL G Z
  |exit i=>
   simp only at Z;show(if i=id then Q .normal z w' else Q (.exit i) z w');split;.rename_i e;rw[if_pos e]at Z;exact hk .normal g z w' B hL G Z
   .rename_i e;rw[if_neg e]at Z;exact hk (.exit i) g z w' B hL G Z
  |ret=>exact hk .ret g z w' B hL G Z
 |cond c x y C K=>
  intro nd L ρ0 st k a w Q q h hk;obtain⟨β,ρ,V,X,A,l⟩:=h;simp only[ex]at l;split at l
  .rename_i v hv;have he:a.eval c=.bool v:=Bc A hv;cases v with
   |true=>exact wpIn_cond_true he (C (H5 nd) L ρ0 st k a w Q q ⟨β,ρ,V,X,A,l⟩ hk)
   |false=>exact wpIn_cond_false he (K (nd2 nd) L ρ0 st k a w Q q ⟨β,ρ,V,X,A,l⟩ hk)
  .rename_i t _ ht;split at l
   .rename_i hc;obtain⟨hc1,hc2⟩:=hc;obtain⟨b,hb⟩:=FY (ρ:=ρ) (β:=β) hc1;have he:a.eval c=.bool b:=(Bc A ht).trans hb;have hfr:=(T.ev_free (β:=id) (β':=β) (ρ:=ρ) t hc2).1;split at l
    .rename_i d;simp only[D,hfr,hb,asB]at l;have M:Rel Dj V0 w0 H.N β (st.now d (.bool b)) ρ V a.tmps w:=A.now (t:=t) ht (by rw[hb];rfl);cases b with
     |true=>exact wpIn_cond_true he (C (H5 nd) L ρ0 _ k a w Q q ⟨β,ρ,V,X.now _ _,M,l.1 rfl⟩ hk)
     |false=>exact wpIn_cond_false he (K (nd2 nd) L ρ0 _ k a w Q q ⟨β,ρ,V,X.now _ _,M,l.2 rfl⟩ hk)
    .simp only[D,hfr,hb,asB]at l;cases b with
     |true=>exact wpIn_cond_true he (C (H5 nd) L ρ0 _ k a w Q q ⟨β,ρ,V,X,A,l.1 rfl⟩ hk)
     |false=>exact wpIn_cond_false he (K (nd2 nd) L ρ0 _ k a w Q q ⟨β,ρ,V,X,A,l.2 rfl⟩ hk)
   .exact l.elim
  .exact l.elim
 |region id ops draw=>
  intro nd L ρ0 st k a w Q q h hk;cases draw with
  |true=>
   refine wpIn_mono (wpIn_region_any (Q:=λe z w'=>e≠.outgrown/\Q e z w') hm (Qt (noOut Q) (λo ho=>LD (ndOps nd o ho)) _ _ _ _ (Qu W (λch z w' G hR=>⟨by simp,q ch z w' G hR⟩) h (λ⟨_,_,h⟩=>h.elim) λg z w' G Z=>⟨by simp,hk .normal g z w' L (yh _) G Z⟩))) λe a w h=>h.2
  |false=>
   refine wpIn_mono (wpIn_region (Q:=λe z w'=>e≠.outgrown/\Q e z w') ?_) λe a w h=>h.2;rw[List.range_eq_range',<-Array.length_toList];exact Nz (noOut Q) (λo ho=>LD (ndOps nd o ho)) _ _ (λj _=>by simp) _ _ (IC W ops.toList st a w (λch z w' G hR=>⟨by simp,q ch z w' G hR⟩) h λg z w' G Z=>⟨by simp,hk .normal g z w' L (yh _) G Z⟩)
 |loop b ih=>
  intro nd L ρ0 st k a w Q q h hk;obtain⟨β,ρ,V,X,A,l⟩:=h;simp only[ex,exLoop]at l;generalize dedup (Gn b)=ws at l;generalize(((Gp b).bind λi=>H.loops.lookup i).getD [])=hint at l;obtain⟨g,t,Z,hfree,β',U,V',hp',hr',p⟩:=Ea _ _ _ _ ⟨β,ρ,V,X,A,l⟩;split at p;case isFalse=>exact p.elim
  rename_i hw;split at p;.exact p.elim
  .rename_i st1 bs hgb;split at p;.exact p.elim
   .rename_i init hinit;split at p;case isFalse=>exact p.elim
    rename_i hok;simp only[D]at p;obtain⟨I,μ,hI,hround⟩:=p;obtain⟨hrh,hsh⟩:=JC hw hr'.nv (yh _) hgb hinit hok hr';let Inv:Nat->Act->World->Prop:=λn z w'=>∃β xs V',Shaped (bs.flatMap (·.2.2)++(Cn ws st1).2.flatMap (·.2.2)) xs/\I xs V'/\μ xs V'=n/\
     Rel Dj V0 w0 H.N β {(Cn ws st1).1 with depth:=g.depth+1} (U++xs) V' z.tmps w'/\z.defers=a.defers
    refine NA Inv ⟨_,β',init.evs U id,V',hsh,hI,rfl,hrh,rfl⟩ ?_;rintro n a1 w1 ⟨β1,xs,V1,hsh1,hI1,rfl,hr1,hd1⟩;have hDb:=hround xs V1 hsh1 hI1;refine ih nd (L++[λys S=>I ys S/\μ ys S<μ xs V1]) U _ _ a1 w1 _ (by rw[hd1];exact q) ⟨β1,U++xs,V1,⟨yP _ _,?_⟩,hr1,hDb⟩ ?_;.simp[hp'.2]
    .intro e st2 a2 w2 L2 hL2 hd2 hg2;cases e with
     |normal=>
      obtain⟨β2,ρ2,V2,hp2,hr2,Y⟩:=hg2;simp only at Y;split at Y
      .rename_i vs hvs;split at Y
       .rename_i hok2;simp only[D]at Y;obtain⟨J,hJ,hJ2⟩:=Y;have hlvl:L2[g.depth]?=some (λys S=>I ys S/\μ ys S<μ xs V1):=by
         obtain⟨σ,rfl⟩:=hL2;rw[<-hp'.2,List.getElem?_append_left (by simp),List.getElem?_append_right (yu _)];simp
        rw[hlvl]at hJ;simp only[zH]at hJ;subst hJ;obtain⟨hrh2,hsh2⟩:=JC hw hr'.nv hp2.1 hgb hvs hok2 hr2;exact⟨_,hJ2.2,β2,vs.evs ρ2 id,V2,hsh2,hJ2.1,rfl,hrh2,hd2.trans hd1⟩
       .exact Y.elim
      .exact Y.elim
     |exit i=>exact hk (.exit i) st2 a2 w2 L2 ((yP _ _).trans hL2) (hd2.trans hd1) (hg2.weak hp'.1)
     |ret=>exact hk .ret st2 a2 w2 L2 ((yP _ _).trans hL2) (hd2.trans hd1) (hg2.weak hp'.1)
 |rangeFunc _ _ _ _ _ _=>intro nd L ρ0 st k a w Q q h hk;obtain⟨β,ρ,V,X,A,l⟩:=h;exact l.elim
 |scope _ _=>intro nd L ρ0 st k a w Q q h hk;obtain⟨β,ρ,V,X,A,l⟩:=h;exact l.elim
 |label _=>intro nd L ρ0 st k a w Q q h hk;obtain⟨β,ρ,V,X,A,l⟩:=h;exact l.elim
 |goto _=>intro nd L ρ0 st k a w Q q h hk;obtain⟨β,ρ,V,X,A,l⟩:=h;exact l.elim
 |refuse _=>intro nd L ρ0 st k a w Q q h hk;obtain⟨β,ρ,V,X,A,l⟩:=h;exact l.elim
end
section
variable{P:Program}{fs:XA}{H:Cj}
def Cy(r:XU)(n:Nat)(P:Program)(Q:Exit->Act->World->Prop):XB->Act->World->Prop
 |[],a,w=>Q .normal a w
 |c::cs,a,w=>c.wpIn (AB r) n P (Exit.then (Cy r n P Q cs) Q) a w
def flat:Code->XB
 |.seq x y=>flat x++flat y
 |c=>[c]
theorem NB{r:XU}{n:Nat}{Q:Exit->Act->World->Prop}{g:XB}:∀{z:XB}{a:Act}{w:World},Cy r n P (Exit.then (Cy r n P Q g) Q) z a w->Cy r n P Q (z++g) a w
 |[],_,_,h=>h
 |c::cs,a,w,h=>by
  refine wpIn_mono (show c.wpIn (AB r) n P _ a w from h) λe l w' y=>?_;cases e with
  |normal=>exact NB y
  |_=>exact y
theorem Fg{r:XU}{n:Nat}{Q z:Exit->Act->World->Prop}(g:∀e a w,Q e a w->z e a w):∀{l:XB}{a:Act}{w:World},Cy r n P Q l a w->Cy r n P z l a w
 |[],_,_,h=>g _ _ _ h
 |c::cs,a,w,h=>by
  refine wpIn_mono (show c.wpIn (AB r) n P _ a w from h) λe q w' y=>?_;cases e with
  |normal=>exact Fg g y
  |_=>exact g _ _ _ y
theorem LF{r:XU}{n:Nat}{Q:Exit->Act->World->Prop}{g:XB}:∀{z:XB}{a:Act}{w:World},Cy r n P Q (z++g) a w->Cy r n P (Exit.then (Cy r n P Q g) Q) z a w
 |[],_,_,h=>h
 |c::cs,a,w,h=>by
  refine wpIn_mono (show c.wpIn (AB r) n P _ a w from h) λe l w' y=>?_;cases e with
  |normal=>exact LF y
  |_=>exact y
theorem FE{r:XU}{n:Nat}:∀{c:Code}{Q:Exit->Act->World->Prop}{a:Act}{w:World},Cy r n P Q (flat c) a w->c.wpIn (AB r) n P Q a w:=by
 intro c;induction c with
 |seq x y z l=>
  intro Q a w h;refine wpIn_seq (z ?_);refine Fg (λe a w g=>?_) (LF h);cases e with
  |normal=>exact l g
  |_=>exact g
 |_=>
  intro Q a w h;refine wpIn_mono (show wO (AB r) n P _ _ a w from h) λe q w' g=>?_;cases e with
  |normal=>exact g
  |_=>exact g
def AS(P:Program)(N:Nat)(cs:XB)(ins:List (Nat×Value))(outs:XA)(V:Mem)(R:KZ):Prop:=
 ∀r n a w,V.le w->a.tmps.size=N->(∀s v,ins.lookup s=some v->a.tmps.getD s undef=v)->
  Cy r n P (λe g w'=>e=.normal/\g.defers=a.defers/\g.tmps.size=N/\∃vs V',(∀s v,(outs.zip vs).lookup s=some v->g.tmps.getD s undef=v)/\R vs V'/\Ax V w V' w') cs a w
theorem AS.mono{N:Nat}{cs:XB}{ins:List (Nat×Value)}{outs:XA}{V:Mem}{R g:KZ}(h:AS P N cs ins outs V R)(z:∀vs V',R vs V'->g vs V'):AS P N cs ins outs V g:=
 λr n a w y l q=>Fg (λ_ _ _ ⟨o,p,J,vs,V',G,Z,h6⟩=>⟨o,p,J,vs,V',G,z _ _ Z,h6⟩) (h r n a w y l q)
def A3(P:Program)(fs:XA)(H:Cj):XB->St->(Ex->St->Tr)->Tr
 |[],st,k=>k .normal st
 |c::cs,st,k=>ex P fs H c st λe st=>match e with|.normal=>A3 P fs H cs st k|e=>k e st
def segT(P:Program)(fs:XA)(H:Cj)(cs:XB)(slots:List (Nat×T))(nv:Nat)(outs:XA):Tr:=
 if(slots.all λx=>x.2.wf nv 0)/\cs.all Ff then
  A3 P fs H cs {slots,boxes:=[],nv,nb:=0,depth:=0} λe st=>
   match e with
   |.normal=>pubT (st.nb+2) st (λst=>(E0 st outs).map T.tup) λ_ t=>.ret t
   |_=>.bad 60 0
 else .bad 61 0
theorem exL_sound{R:Ending->Mem->Prop}{V0:Mem}{w0:World}{r:XU}{n:Nat}(g:DV P fs)(hm:P.follows .mixedOrders=true){k:Ex->St->Tr}{Q:Exit->Act->World->Prop}{ρ0:XV}:∀{cs:XB}{L:List (KZ)}{st:St}{a:Act}{w:World},
  Fu R V0 w0 a.defers Q->A2 P R Dj V0 w0 H.N L ρ0 a.tmps w st (A3 P fs H cs st k)->cs.all Ff=true->
  (∀e z l w' q,L<+:q->l.defers=a.defers->A2 P R Dj V0 w0 H.N q ρ0 l.tmps w' z (k e z)->Q e.toExit l w')->Cy r n P Q cs a w
 |[],L,st,a,w,_,h,_,hk=>hk .normal st a w L (yh _) rfl h
 |c::cs,L,st,a,w,X,h,y,hk=>by
  simp only[List.all_cons,zD]at y;refine ex_sound_in g hm c y.1 L ρ0 st _ a w _ X h λe z l w' q p J G=>?_;cases e with
  |normal=>exact exL_sound g hm (by grind) G y.2 λe o Z Y W A I M=>hk e o Z Y W (p.trans A) (I.trans J) M
  |exit i=>exact hk (.exit i) z l w' q p J G
  |ret=>exact hk .ret z l w' q p J G
end
section
variable{P:Program}{fs:XA}{H:Cj}
theorem LG{f:T->Value}:∀{l:XA}{ts:XJ}{s:Nat}{v:Value},(l.zip (ts.map f)).lookup s=some v->∃t,(l.zip ts).lookup s=some t/\f t=v/\s∈l
 |[],_,s,v,h=>by simp at h
 |x::xs,[],s,v,h=>by simp at h
 |x::xs,t::ts,s,v,h=>by
  simp only[zI,wP,yH]at h⊢;by_cases e:s=x;.simp_all
  .have:(s==x)=false:=by simpa using e
   rw[this]at h⊢;obtain⟨g,z,y,q⟩:=LG h;simp_all
theorem LH{f:T->Value}:∀{l:List (Nat×T)}{s:Nat}{t:T},l.lookup s=some t->(l.map λx=>(x.1,f x.2)).lookup s=some (f t)
 |[],s,t,h=>by simp at h
 |(x,u)::xs,s,t,h=>by
  simp only[zI,yH]at h⊢;split at h;.simp_all
  .exact LH h
theorem seg_sound(z:DV P fs)(hm:P.follows .mixedOrders=true){N:Nat}{cs:XB}{slots:List (Nat×T)}{nv:Nat}{outs:XA}{t:Tr}(ht:segT P fs {H with N:=N} cs slots nv outs=t)(ρ:XV)(hn:ρ.length=nv)
  {ins:List (Nat×Value)} (p:ins=slots.map λx=>(x.1,x.2.ev ρ id)) {V:Mem} {R:KZ} {q:Prop} (S:q=DT P {} (λe V'=>∃vs:XV,e=.returned (.tuple vs.toArray)/\R vs V') t [] ρ V) (h:q):
  AS P N cs ins outs V R:=by
 intro r n a w U hN hs;subst S p ht;have g:=DC _ _ _ _ h;unfold segT at g;split at g;case isFalse=>exact g.elim
 rename_i hw;obtain⟨hwf,W⟩:=hw;refine exL_sound (L:=[]) (ρ0:=ρ) (V0:=V) (w0:=w) z hm (λ_ _ _ _ h=>by simp_all) ⟨id,ρ,V,⟨yh _,rfl⟩,?_,g⟩ W ?_
 .exact
   {nv:=hn
    size:=hN
    slots:=λs t J=>by
     have hl:=HQ J;simp_all[LH,id]
    frm:=Ax.refl U
    boxes:=λi cs ty hi=>by simp[St.box]at hi
    hid:=λb o hb=>by cases hb
    inj:=λi j hi _ _=>by grind}
 .intro e st' a' w' L' _ hd J;cases e with
  |exit j=>obtain⟨β,l,V2,X,G,g⟩:=J;exact g.elim
  |ret=>obtain⟨β,l,V2,X,G,g⟩:=J;exact g.elim
  |normal=>
   obtain⟨st2,t2,Z,A,β,l,V2,X,G,g⟩:=Ea _ _ _ _ J;simp only[zn]at Z;obtain⟨x,B,rfl⟩:=Z;simp only[D]at g;obtain⟨vs,h1,h2⟩:=g;simp only[T.ev,wQ,wR]at h1;have I:T.evs l id x=vs:=by simp_all
   refine⟨rfl,hd,G.size,vs,V2,λs v Y=>?_,h2,G.frm⟩;rw[<-I,Dv]at Y;obtain⟨t,g1,g2,C⟩:=LG Y;obtain⟨y,K,g5⟩:=Jw B s C;have M:=Jv B s C;rw[g1,K]at M;simp only[zH]at M;subst M;rw[G.slots s t K,<-g2];grind[Jx,T.firstBox,T.ev_free]
end
section
variable{P:Program}
def Bo(fn:FuncId)(tmps:XQ)(ps:Array Tmp)(assign body:Code)(D:Nat):Loop:={state:=.ready,pending:=none,fn,tmps,params:=ps,assign,body,defers:=D}
theorem LJ{g:Operand}{ps:Array Tmp}{assign body:Code}{a:Act}{w:World}{V:Mem}{f:FuncId}{caps:XQ}{n:Nat}{Q:Exit->Act->World->Prop}{Φ:Mem->Prop}
  (N:V.le w) (B:a.eval g=.func (.func f) #[] caps) (C:∀args w,(callFunc f args).run P w=.ok (.enter f args) w)
  (hit:∀fn l D,V l=none->Tri P f (#[.func (.yield l) #[] #[]]++caps) (V.set l (.loop (Bo fn a.tmps ps assign body D))) λe V'=>(∃v,e=.returned v)/\∃V2,V'=V2.set l (.loop (Bo fn a.tmps ps assign body D))/\V2 l=none/\Φ V2)
  (p:∀D V' W,w.heap.size<=D->Ax V w V' W->V' D=none->W.heap[D]?=some (.deferred (some []))->Φ V'->Q .normal {a with defers:={target:=.collected D,args:=#[]}::a.defers} W):
  (Code.rangeFunc g ps assign body).wpIn (AB none) n P Q a w:=by
 refine wpIn_rangeFunc λfn _=>?_;obtain⟨z,y⟩:∃z,(w.alloc (.deferred (some []))).alloc (.loop (Bo fn a.tmps ps assign body w.heap.size))=z:=⟨_,rfl⟩;have K:z.heap.size=w.heap.size+2:=by rw[<-y];simp
 have S:z.heap[w.heap.size+1]?=some (.loop (Bo fn a.tmps ps assign body w.heap.size)):=by
  grind[wS,Bo,World.size_alloc]
 have Z:z.heap[w.heap.size]?=some (.deferred (some [])):=by
  grind[xq,wS]
 have hold:∀b,b<w.heap.size->z.heap[b]?=w.heap[b]?:=λb hb=>by
  grind[xq]
 have Y:∀b,w.heap.size<=b->V b=none:=λb hb=>by
  cases hc:V b with
  |none=>rfl
  |some o=>have:=(yN.1 (N b o hc)).1;omega
 have A:(V.set (w.heap.size+1) (.loop (Bo fn a.tmps ps assign body w.heap.size))).le z:=λb o hb=>by
  by_cases e:b=w.heap.size+1;.grind[Mem.set_same]
  .rw[Mem.set_ne e]at hb;have:=(yN.1 (N b o hb)).1;rw[hold b this];exact N b o hb
 refine⟨w.heap.size+1,[{target:=.collected w.heap.size,args:=#[]}],z,{target:=.fn (.func f) caps,args:=#[.func (.yield (w.heap.size+1)) #[] #[]]},z,f,
  #[.func (.yield (w.heap.size+1)) #[] #[]]++caps,z,?_,?_,?_,?_,λh=>by simp[AB,wJ]at h,?_⟩
 .rw[<-y];exact run_enterLoop_outer _ _ _ _ _
 .simp only[resolve,B];simp[go_sem]
 .intro f' T;trivial
 .simp[invoke,go_sem,C]
 .refine LC.2 (Gu (hit fn (w.heap.size+1) w.heap.size (Y _ (by omega)) z A) ?_);rintro e J ⟨V',⟨⟨v,rfl⟩,V2,rfl,h2,I⟩,q⟩;have G:J.heap[w.heap.size+1]?=some (.loop (Bo fn a.tmps ps assign body w.heap.size)):=q.le _ _ (Mem.set_same _ _ _);have U:w.heap.size+1<J.heap.size:=(yN.1 G).1;refine⟨none,_,run_endLoop (P:=P) G (by simp[Bo]),?_⟩;have M:(V.set (w.heap.size+1) (.loop (Bo fn a.tmps ps assign body w.heap.size))) w.heap.size=none:=by
   simp_all[Mem.set_ne,yu]
  have X:J.heap[w.heap.size]?=some (.deferred (some [])):=(q.old _ (by omega) M).trans Z;refine p w.heap.size V2 _ (yu _) ?_ ?_ ((wT (by omega)).trans X) I
  .refine⟨?_,λb o hb=>?_,λb hb hn=>?_,λb hb=>?_,?_,?_⟩;.grind[wU]
   .have e:b≠w.heap.size+1:=λe=>by simp_all
    refine(wT e).trans (q.le b o ?_);rw[Mem.set_ne e];exact hb
   .refine(wT (by omega)).trans ((q.old b (by omega) ?_).trans (hold b hb));grind[Mem.set_ne]
   .have e:b≠w.heap.size+1:=λe=>by simp_all
    rcases q.dom b (by rw[Mem.set_ne e];exact hb)with h|h
    .grind[Mem.set_ne]
    omega
   .show J.os=w.os;rw[q.os,<-y];rfl
   .show J.output=w.output;rw[q.out,<-y];rfl
  .cases hc:V2 w.heap.size with
   |none=>rfl
   |some o=>
    rcases q.dom w.heap.size (by grind[Mem.set_ne])with h|h;.grind
    .omega
theorem LK{l:Nat}{V:Mem}{w:World}{fn:FuncId}{tmps:XQ}{ps:Array Tmp}{assign body:Code}{D:Nat}{args:XQ}{N n:Nat}(hl:V l=none)
  (hV:(V.set l (.loop (Bo fn tmps ps assign body D))).le w) {insA:List (Nat×Value)} {outsA:XA} {RA:KZ} {J:Mem->Prop} (hN:((ps.zip args).foldl (λt (p,v)=>t.setIfInBounds p v) tmps).size=N)
  (y:∀s v,insA.lookup s=some v->((ps.zip args).foldl (λt (p,v)=>t.setIfInBounds p v) tmps).getD s undef=v)
  (hA:AS P N [assign] insA outsA V RA) (hB:∀vs V1,RA vs V1->AS P N [body] (outsA.zip vs) [] V1 λ_ V2=>J V2):
  RoundIn (AB none) n P l fn ((ps.zip args).foldl (λt (p,v)=>t.setIfInBounds p v) tmps) assign body w λe w'=>
   e=.returned (.bool true)/\∃V2,J V2/\V2 l=none/\Ax (V.set l (.loop (Bo fn tmps ps assign body D))) w (V2.set l (.loop (Bo fn tmps ps assign body D))) w':=by
 have q:w.heap[l]?=some (.loop (Bo fn tmps ps assign body D)):=hV l _ (Mem.set_same _ _ _);have G:l<w.heap.size:=(yN.1 q).1;have Z:V.le w:=λb o hb=>by
  have e:b≠l:=λe=>by simp_all
  exact hV b o (by rw[Mem.set_ne e];exact hb)
 refine roundIn_of_wpIn (F:=AB none) trivial ?_;have h1:=hA (some l) n {tmps:=(ps.zip args).foldl (λt (p,v)=>t.setIfInBounds p v) tmps,defers:=[]} w Z hN y;refine wpIn_mono (show assign.wpIn (AB (some l)) n P _ _ w from h1) ?_;rintro e a1 K he;cases e with
 |normal=>
  obtain⟨_,hd1,S,vs,V1,T,U,g⟩:=he;have Y:K.heap[l]?=some (.loop (Bo fn tmps ps assign body D)):=(g.old l G hl).trans q;refine⟨_,run_beginRound Y rfl,?_⟩;have W:l<K.heap.size:=(yN.1 Y).1;have A:V1 l=none:=by
   cases hc:V1 l with
   |none=>rfl
   |some o=>
    rcases g.dom l (by rw[hc];simp)with h|h
    .grind
    .omega
  have hV1:V1.le (K.putObj l (.loop {Bo fn tmps ps assign body D with state:=.busy})):=λb o hb=>by
   have e:b≠l:=λe=>by simp_all
   exact(wT e).trans (g.le b o hb)
  have h2:=hB vs V1 U (some l) n a1 _ hV1 S T;refine wpIn_mono (show body.wpIn (AB (some l)) n P _ _ _ from h2) ?_;rintro e a2 C I;cases e with
  |normal=>
   obtain⟨_,_,_,_,V2,_,hJ,z⟩:=I;have M:C.heap[l]?=some (.loop {Bo fn tmps ps assign body D with state:=.busy}):=(z.old l (by simp_all) A).trans (wW W);have X:l<C.heap.size:=(yN.1 M).1;have B:V2 l=none:=by
    cases hc:V2 l with
    |none=>rfl
    |some o=>
     rcases z.dom l (by rw[hc];simp)with h|h
     .grind
     grind[wU]
   refine⟨_,_,run_endRound (P:=P) none M,rfl,V2,hJ,B,?_⟩;have z2:=z.size;rw[wU]at z2;have z1:=g.size;refine⟨?_,λb o hb=>?_,λb hb hn=>?_,λb hb=>?_,?_,?_⟩;.rw[wU];omega
   .by_cases e:b=l
    .subst e;rw[Mem.set_same]at hb;rw[<-hb];exact wW X
    .rw[Mem.set_ne e]at hb;exact(wT e).trans (z.le b o hb)
   .have e:b≠l:=λe=>by grind[Mem.set_same]
    rw[Mem.set_ne e]at hn;have hn1:V1 b=none:=by
     cases hc:V1 b with
     |none=>rfl
     |some o=>
      rcases g.dom b (by rw[hc];simp)with h|h
      .grind
      .omega
    refine(wT e).trans ((z.old b (by rw[wU];omega) hn1).trans ((wT e).trans (g.old b hb hn)))
   .by_cases e:b=l;.grind[Mem.set_same]
    .rw[Mem.set_ne e]at hb⊢;rcases z.dom b hb with h|h
     .rcases g.dom b h with h|h;.exact .inl h
      .exact .inr h
     grind[inr,wU]
   .show C.os=w.os;rw[z.os];exact g.os
   .show C.output=w.output;rw[z.out];exact g.out
  |_=>exact absurd I.1 (by simp)
 |_=>exact absurd he.1 (by simp)
theorem NC{f:FuncId}{fn:Func}{c:Code}{args:XQ}{V:Mem}{R:Ending->Mem->Prop}(hf:P.funcs[f]?=some fn)(hb:fn.body=some c)
  (h:∀w,V.le w->Cy none 0 P (λe z w'=>(e=.normal∨e=.ret)/\∃Ds:XA,z.defers=Ds.map (λD=>{target:=.collected D,args:=#[]})/\Ds.Nodup/\∃V',Ax V w V' w'/\
    (∀D∈Ds,w.heap.size<=D/\w'.heap[D]?=some (.deferred (some []))/\V' D=none)/\∃v,(∀g,V'.le g->(results fn z.tmps).run P g=.ok v g)/\R (.returned v) V')
   (flat c) {tmps:=args++wM (fn.ntmps-args.size) undef,defers:=[]} w):Tri P f args V R:=by
 intro w N;have key:∀(Ds:XA)(z:Act)(V':Mem)(v:Value)(w':World),Ds.Nodup->Ax V w V' w'->(∀D∈Ds,w.heap.size<=D/\w'.heap[D]?=some (.deferred (some []))/\V' D=none)->
   (∀g,V'.le g->(results fn z.tmps).run P g=.ok v g)->R (.returned v) V'->
   LeavesInM (AB none) 0 P fn z.tmps (λe w'=>∃V',R e V'/\Ax V w V' w') (Ds.map λD=>{target:=.collected D,args:=#[]}) .returning w':=by
  intro Ds z V' v;induction Ds with
  |nil=>intro w' _ y _ p J;exact⟨v,p w' y.le,V',J,y⟩
  |cons D Ds Z=>
   intro w' l y G p J;obtain⟨Y,q,W⟩:=G D (by simp);have A:=(yN.1 q).1;refine⟨by simp,.inl ⟨D,_,rfl,run_takeDeferred q,Z _ (yv.1 l).2 ?_ ?_ p J⟩⟩
   .refine⟨by grind[wU],λb o hb=>?_,λb hb hn=>?_,y.dom,y.os,y.out⟩
    .have e:b≠D:=λe=>by simp_all
     exact(wT e).trans (y.le b o hb)
    .exact(wT (by omega)).trans (y.old b hb hn)
   grind[D,yv,wT]
 refine(callsIn_wide (n:=0)).1 (callsIn_of_wp_marks (F:=AB none) hf hb trivial (FE ?_) rfl);refine Fg ?_ (h w N);rintro e z w' ⟨I,Ds,M,l,V',y,G,v,p,J⟩;rcases I with rfl|rfl
 .show LeavesInM _ _ _ _ _ _ z.defers _ _;grind
 .show LeavesInM _ _ _ _ _ _ z.defers _ _;grind
end
def kid:Code->Nat->Code
 |.block _ b,_=>b
 |.loop b,_=>b
 |.cond _ x y,j=>if j=0 then x else y
 |.rangeFunc _ _ x y,j=>if j=0 then x else y
 |c,_=>c
def AY(c:Code):XA->XB
 |i::j::p=>match(flat c)[i]? with|some d=>AY (kid d j) p|none=>[]
 |_=>flat c
def Cq:Code->XW
 |.region _ g _=>g
 |_=>#[]
def AF(f:Func):Code:=f.body.getD .skip
section
variable{P:Program}{fs:XA}{H:Cj}
def CS(P:Program)(N:Nat)(ops:XW)(k m:Nat)(ins:List (Nat×Value))(outs:XA)(V:Mem)(R:KZ):Prop:=
 ∀r n a w,V.le w->a.tmps.size=N->(∀s v,ins.lookup s=some v->a.tmps.getD s undef=v)->
  wpOpsIn (AB r) n P ops (λe g w'=>e=.normal/\g.defers=a.defers/\g.tmps.size=N/\∃vs V',(∀s v,(outs.zip vs).lookup s=some v->g.tmps.getD s undef=v)/\R vs V'/\Ax V w V' w') (wK k m) a w
def segOT(P:Program)(fs:XA)(H:Cj)(ops:XW)(k m:Nat)(slots:List (Nat×T))(nv:Nat)(outs:XA):Tr:=
 if(slots.all λx=>x.2.wf nv 0)/\(ops.all λo=>Ka o.op)/\((ops.toList.drop k).take m).length=m then
  FW P fs H ops ((ops.toList.drop k).take m) {slots,boxes:=[],nv,nb:=0,depth:=0} λst=>
   pubT (st.nb+2) st (λst=>(E0 st outs).map T.tup) λ_ t=>.ret t
 else .bad 61 0
theorem ND(g:DV P fs){N:Nat}{ops:XW}{k m:Nat}{slots:List (Nat×T)}{nv:Nat}{outs:XA}{t:Tr}(ht:segOT P fs {H with N:=N} ops k m slots nv outs=t)(ρ:XV)(hn:ρ.length=nv)
  {ins:List (Nat×Value)} (l:ins=slots.map λx=>(x.1,x.2.ev ρ id)) {V:Mem} {R:KZ} {q:Prop} (K:q=DT P {} (λe V'=>∃vs:XV,e=.returned (.tuple vs.toArray)/\R vs V') t [] ρ V) (h:q):
  CS P N ops k m ins outs V R:=by
 intro r n a w S U hs;subst K l ht;have z:=DC _ _ _ _ h;unfold segOT at z;split at z;case isFalse=>exact z.elim
 rename_i hw;obtain⟨hwf,hnd,p⟩:=hw;have e1:(wK k m)=wK k ((ops.toList.drop k).take m).length:=by rw[p]
 rw[e1];refine Nz (λh=>by obtain⟨_,_,h,_⟩:=h;cases h) (λo ho=>LD (by grind[wN])) _ _ (λj hj=>?_) a w ?_;.simp_all
 refine IC (L:=[]) (ρ0:=ρ) (V0:=V) (w0:=w) (O:=Dj) g _ _ a w (λ_ _ _ _ h=>by simp_all) ⟨id,ρ,V,⟨yh _,rfl⟩,?_,z⟩ ?_
 .exact
   {nv:=hn
    size:=U
    slots:=λs t Z=>by
     have hl:=HQ Z;simp_all[LH,id]
    frm:=Ax.refl S
    boxes:=λi cs ty hi=>by simp[St.box]at hi
    hid:=λb o hb=>by cases hb
    inj:=λi j hi _ _=>by grind}
 .intro st' a' w' hd Z;obtain⟨st2,t2,J,Y,β,W,V2,hp,A,z⟩:=Ea _ _ _ _ Z;simp only[zn]at J;obtain⟨x,X,rfl⟩:=J;simp only[D]at z;obtain⟨vs,h1,h2⟩:=z;simp only[T.ev,wQ,wR]at h1;have I:T.evs W id x=vs:=by simp_all
  refine⟨rfl,hd,A.size,vs,V2,λs v G=>?_,h2,A.frm⟩;rw[<-I,Dv]at G;obtain⟨t,g1,g2,B⟩:=LG G;obtain⟨y,C,g5⟩:=Jw X s B;have M:=Jv X s B;rw[g1,C]at M;simp only[zH]at M;subst M;rw[A.slots s t C,<-g2];grind[Jx,T.firstBox,T.ev_free]
theorem wpOpIn_monoQ{F:Fence}{n:Nat}{ops:XW}{Q z:Exit->Act->World->Prop}(J:∀c a w,z (.panic c) a w->Q (.panic c) a w)(G:LetsOut z->LetsOut Q){i:Nat}{a:Act}{w:World}{K l:Act->World->Prop}(h:∀a w,K a w->l a w)
  (g:wpOpIn F n P ops z i K a w):wpOpIn F n P ops Q i l a w:=by
 unfold wpOpIn at*
 split;.simp_all
 .rename_i o y;simp only[y]at g;split
  .rename_i hw;simp only[hw,if_true]at g;unfold Oper.wpIn at*
   refine⟨g.1,?_⟩;have g:=g.2;generalize(o.semAt F.round a.eval).run P w=r at*
   cases r with
   |ok x w'=>
    cases x<;>simp only[Oper.uponIn]at g⊢<;>
     first
      |exact h _ _ g
      |exact⟨g.1,CallsIn.mono g.2 (λe p q=>by grind)⟩
      |exact⟨g.1,RowsIn.mono g.2 (λ_ _ q=>h _ _ q)⟩
      |grind[RoundIn.mono]
   |halt x w'=>cases x<;>simp only[Oper.uponIn]at g⊢<;>first|grind|exact g
  simp_all
theorem Qv{F:Fence}{n:Nat}{ops:XW}{Q z:Exit->Act->World->Prop}(q:∀c a w,z (.panic c) a w->Q (.panic c) a w)(o:LetsOut z->LetsOut Q){y:XA}(l:∀a w,z .normal a w->wpOpsIn F n P ops Q y a w):∀{g:XA}{a:Act}{w:World},
  wpOpsIn F n P ops z g a w->wpOpsIn F n P ops Q (g++y) a w:=by
 intro g;induction g with
 |nil=>exact λh=>l _ _ h
 |cons i g p=>
  grind[wpOpsIn_cons,wpOpIn_monoQ]
end
end Go.Sx
namespace Go.Proofs
open Go Go.Sx
set_option maxRecDepth 100000
section
variable{V:Mem}{R:RP}
theorem Cd{H:Cj}{N:Nat}{cs:XB}(slots:List (Nat×T)){outs:XA}(ρ:XV){ins:List (Nat×Value)}(g:ins=slots.map λx=>(x.1,x.2.ev ρ id)){V:Mem}{R:KZ}{q:Prop}
  (z:q=DT xV {} (OV R) (segT xV fs {H with N:=N} cs slots ρ.length outs) [] ρ V) (h:q):AS xV N cs ins outs V R:=
 seg_sound (H:=H) II Lj rfl ρ rfl g z h
theorem FF{H:Cj}{N:Nat}{ops:XW}{k m:Nat}(slots:List (Nat×T)){outs:XA}(ρ:XV){ins:List (Nat×Value)}(g:ins=slots.map λx=>(x.1,x.2.ev ρ id)){V:Mem}{R:KZ}{q:Prop}
  (z:q=DT xV {} (OV R) (segOT xV fs {H with N:=N} ops k m slots ρ.length outs) [] ρ V) (h:q):CS xV N ops k m ins outs V R:=
 ND (H:=H) II rfl ρ rfl g z h
noncomputable def c351a:XB:=((AY (AF wX) []).drop 0).take 1
def w351a(a:Value)(b:XI):MR:=λV R=>∃c,V.rowp b ((0:Int).toNat*1) 1=some [uL c]/\IR ((c.n:Int)-1)/\R (rT #[K.cast .f a,uP b,uI ((c.n:Int)-1)]) V
theorem s351a{a:Value}{b:XI}{V:Mem}{R:KZ}(h:w351a a b V (OV R)):AS xV 19 c351a [(0,K.cast .f a),(1,uP b)] [0,1,3] V R:=
 Cd (H:=hK 19) [(0,(.var .f 0)),(1,(.var .p 1))] [a,uP b] rfl (by kernel_rfl) h
noncomputable def c351b:XB:=((AY (AF wX) [1,0,0,0]).drop 0).take 1
def w351b(a:Value)(b:XI)(c:Int):MR:=λV R=>R (rT #[K.cast .f a,uP b,uI c,uB (decide (0<=c))]) V
theorem s351b{a:Value}{b:XI}{c:Int}{V:Mem}{R:KZ}(h:w351b a b c V (OV R)):AS xV 19 c351b [(0,K.cast .f a),(1,uP b),(3,uI c)] [0,1,3,8] V R:=
 Cd (H:=hK 19) [(0,(.var .f 0)),(1,(.var .p 1)),(3,(.var (.i .i64) 2))] [a,uP b,uI c] rfl (by kernel_rfl) h
noncomputable def c351c:XW:=Cq ((AY (AF wX) [1,0,0,0,2,0]).getD 0 .skip)
def w351c(a:Value)(b:XI)(c:Int):MR:=λV R=>∃d,V.rowp b ((0:Int).toNat*1) 1=some [uL d]/\R9 V d c (λg i=>R (rT #[K.cast .f a,uP b,uI c,K.cast .f a,uI c,uA #[uS g,uS i]]) V)
theorem s351c{a:Value}{b:XI}{c:Int}{V:Mem}{R:KZ}(h:w351c a b c V (OV R)):CS xV 19 c351c 0 6 [(0,K.cast .f a),(1,uP b),(3,uI c)] [0,1,3,11,12,16] V R:=
 FF (H:=hK 19) [(0,(.var .f 0)),(1,(.var .p 1)),(3,(.var (.i .i64) 2))] [a,uP b,uI c] rfl (by kernel_rfl) h
noncomputable def c351d:XW:=Cq ((AY (AF wX) [1,0,0,0,2,0]).getD 0 .skip)
def w351d(a:Value)(b:XI)(c:Int)(d:Bool):MR:=λV R=>R (rT #[K.cast .f a,uP b,uI c,uB (!d)]) V
theorem s351d{a:Value}{b:XI}{c:Int}{d:Bool}{V:Mem}{R:KZ}(h:w351d a b c d V (OV R)):CS xV 19 c351d 7 1 [(0,K.cast .f a),(1,uP b),(3,uI c),(17,uB d)] [0,1,3,18] V R:=
 FF (H:=hK 19) [(0,(.var .f 0)),(1,(.var .p 1)),(3,(.var (.i .i64) 2)),(17,(.var .b 3))] [a,uP b,uI c,uB d] rfl (by kernel_rfl) h
noncomputable def c351e:XB:=((AY (AF wX) [1,0,0,0]).drop 3).take 1
def w351e(a:Value)(b:XI)(c:Int):MR:=λV R=>IR (c-1)/\R (rT #[K.cast .f a,uP b,uI (c-1)]) V
theorem s351e{a:Value}{b:XI}{c:Int}{V:Mem}{R:KZ}(h:w351e a b c V (OV R)):AS xV 19 c351e [(0,K.cast .f a),(1,uP b),(3,uI c)] [0,1,3] V R:=
 Cd (H:=hK 19) [(0,(.var .f 0)),(1,(.var .p 1)),(3,(.var (.i .i64) 2))] [a,uP b,uI c] rfl (by kernel_rfl) h
noncomputable def c222a:XB:=((AY (AF wY) []).drop 0).take 1
def w222a(a:Value)(b:XI):MR:=λV R=>∃c,V.rowp b ((0:Int).toNat*1) 1=some [uL c]/\IR ((c.n:Int)-1)/\R (rT #[K.cast .f a,uP b,uI ((c.n:Int)-1)]) V
theorem s222a{a:Value}{b:XI}{V:Mem}{R:KZ}(h:w222a a b V (OV R)):AS xV 19 c222a [(0,K.cast .f a),(1,uP b)] [0,1,3] V R:=
 Cd (H:=hK 19) [(0,(.var .f 0)),(1,(.var .p 1))] [a,uP b] rfl (by kernel_rfl) h
noncomputable def c222b:XB:=((AY (AF wY) [1,0,0,0]).drop 0).take 1
def w222b(a:Value)(b:XI)(c:Int):MR:=λV R=>R (rT #[K.cast .f a,uP b,uI c,uB (decide (0<=c))]) V
theorem s222b{a:Value}{b:XI}{c:Int}{V:Mem}{R:KZ}(h:w222b a b c V (OV R)):AS xV 19 c222b [(0,K.cast .f a),(1,uP b),(3,uI c)] [0,1,3,8] V R:=
 Cd (H:=hK 19) [(0,(.var .f 0)),(1,(.var .p 1)),(3,(.var (.i .i64) 2))] [a,uP b,uI c] rfl (by kernel_rfl) h
noncomputable def c222c:XW:=Cq ((AY (AF wY) [1,0,0,0,2,0]).getD 0 .skip)
def w222c(a:Value)(b:XI)(c:Int):MR:=λV R=>∃d,V.rowp b ((0:Int).toNat*1) 1=some [uL d]/\RZ V d c (λg i=>R (rT #[K.cast .f a,uP b,uI c,K.cast .f a,uI c,uA #[uS g,uL i]]) V)
theorem s222c{a:Value}{b:XI}{c:Int}{V:Mem}{R:KZ}(h:w222c a b c V (OV R)):CS xV 19 c222c 0 6 [(0,K.cast .f a),(1,uP b),(3,uI c)] [0,1,3,11,12,16] V R:=
 FF (H:=hK 19) [(0,(.var .f 0)),(1,(.var .p 1)),(3,(.var (.i .i64) 2))] [a,uP b,uI c] rfl (by kernel_rfl) h
noncomputable def c222d:XW:=Cq ((AY (AF wY) [1,0,0,0,2,0]).getD 0 .skip)
def w222d(a:Value)(b:XI)(c:Int)(d:Bool):MR:=λV R=>R (rT #[K.cast .f a,uP b,uI c,uB (!d)]) V
theorem s222d{a:Value}{b:XI}{c:Int}{d:Bool}{V:Mem}{R:KZ}(h:w222d a b c d V (OV R)):CS xV 19 c222d 7 1 [(0,K.cast .f a),(1,uP b),(3,uI c),(17,uB d)] [0,1,3,18] V R:=
 FF (H:=hK 19) [(0,(.var .f 0)),(1,(.var .p 1)),(3,(.var (.i .i64) 2)),(17,(.var .b 3))] [a,uP b,uI c,uB d] rfl (by kernel_rfl) h
noncomputable def c222e:XB:=((AY (AF wY) [1,0,0,0]).drop 3).take 1
def w222e(a:Value)(b:XI)(c:Int):MR:=λV R=>IR (c-1)/\R (rT #[K.cast .f a,uP b,uI (c-1)]) V
theorem s222e{a:Value}{b:XI}{c:Int}{V:Mem}{R:KZ}(h:w222e a b c V (OV R)):AS xV 19 c222e [(0,K.cast .f a),(1,uP b),(3,uI c)] [0,1,3] V R:=
 Cd (H:=hK 19) [(0,(.var .f 0)),(1,(.var .p 1)),(3,(.var (.i .i64) 2))] [a,uP b,uI c] rfl (by kernel_rfl) h
noncomputable def c223a:XB:=((AY (AF wZ) []).drop 0).take 1
def w223a(a:Value)(b:XI):MR:=λV R=>∃c,V.rowp b ((0:Int).toNat*1) 1=some [uL c]/\IR ((c.n:Int)-1)/\R (rT #[K.cast .f a,uP b,uI ((c.n:Int)-1)]) V
theorem s223a{a:Value}{b:XI}{V:Mem}{R:KZ}(h:w223a a b V (OV R)):AS xV 19 c223a [(0,K.cast .f a),(1,uP b)] [0,1,3] V R:=
 Cd (H:=hK 19) [(0,(.var .f 0)),(1,(.var .p 1))] [a,uP b] rfl (by kernel_rfl) h
noncomputable def c223b:XB:=((AY (AF wZ) [1,0,0,0]).drop 0).take 1
def w223b(a:Value)(b:XI)(c:Int):MR:=λV R=>R (rT #[K.cast .f a,uP b,uI c,uB (decide (0<=c))]) V
theorem s223b{a:Value}{b:XI}{c:Int}{V:Mem}{R:KZ}(h:w223b a b c V (OV R)):AS xV 19 c223b [(0,K.cast .f a),(1,uP b),(3,uI c)] [0,1,3,8] V R:=
 Cd (H:=hK 19) [(0,(.var .f 0)),(1,(.var .p 1)),(3,(.var (.i .i64) 2))] [a,uP b,uI c] rfl (by kernel_rfl) h
noncomputable def c223c:XW:=Cq ((AY (AF wZ) [1,0,0,0,2,0]).getD 0 .skip)
def w223c(a:Value)(b:XI)(c:Int):MR:=λV R=>∃d,V.rowp b ((0:Int).toNat*1) 1=some [uL d]/\Rz V d c (λg i j k l=>R (rT #[K.cast .f a,uP b,uI c,K.cast .f a,uI c,uA #[uS g,uL i,uS j,uL k,uL l]]) V)
theorem s223c{a:Value}{b:XI}{c:Int}{V:Mem}{R:KZ}(h:w223c a b c V (OV R)):CS xV 19 c223c 0 6 [(0,K.cast .f a),(1,uP b),(3,uI c)] [0,1,3,11,12,16] V R:=
 FF (H:=hK 19) [(0,(.var .f 0)),(1,(.var .p 1)),(3,(.var (.i .i64) 2))] [a,uP b,uI c] rfl (by kernel_rfl) h
noncomputable def c223d:XW:=Cq ((AY (AF wZ) [1,0,0,0,2,0]).getD 0 .skip)
def w223d(a:Value)(b:XI)(c:Int)(d:Bool):MR:=λV R=>R (rT #[K.cast .f a,uP b,uI c,uB (!d)]) V
theorem s223d{a:Value}{b:XI}{c:Int}{d:Bool}{V:Mem}{R:KZ}(h:w223d a b c d V (OV R)):CS xV 19 c223d 7 1 [(0,K.cast .f a),(1,uP b),(3,uI c),(17,uB d)] [0,1,3,18] V R:=
 FF (H:=hK 19) [(0,(.var .f 0)),(1,(.var .p 1)),(3,(.var (.i .i64) 2)),(17,(.var .b 3))] [a,uP b,uI c,uB d] rfl (by kernel_rfl) h
noncomputable def c223e:XB:=((AY (AF wZ) [1,0,0,0]).drop 3).take 1
def w223e(a:Value)(b:XI)(c:Int):MR:=λV R=>IR (c-1)/\R (rT #[K.cast .f a,uP b,uI (c-1)]) V
theorem s223e{a:Value}{b:XI}{c:Int}{V:Mem}{R:KZ}(h:w223e a b c V (OV R)):AS xV 19 c223e [(0,K.cast .f a),(1,uP b),(3,uI c)] [0,1,3] V R:=
 Cd (H:=hK 19) [(0,(.var .f 0)),(1,(.var .p 1)),(3,(.var (.i .i64) 2))] [a,uP b,uI c] rfl (by kernel_rfl) h
noncomputable def c298a:XB:=((AY (AF wz) []).drop 0).take 3
def w298a(a:XI)(b:Bool)(c:Sl):MR:=λV R=>GenK xV (.makeMap 321 none) 321 (gv []) V λx V1=>∃d,x=uM d/\N2 a (¬(Aa a 0)=none/\∃g,V1.rowp a 2 1=some [uL g]/\TT 329 #[uL g] V1 λe V2=>∃i,K.f.ok i/\e=rV i/\Af [uP none,uM none,uB false] 323 V2 λj z=>Af [uP a,uM d,uB b] 323 z λk y=>R (rT #[uP a,uB b,uL c,uP (Aa j 0),uP (Aa k 0),K.cast .f i]) y)
theorem s298a{a:XI}{b:Bool}{c:Sl}{V:Mem}{R:KZ}(h:w298a a b c V (OV R)):AS xV 63 c298a [(0,uP a),(1,uB b),(2,uL c)] [0,1,2,6,7,24] V R:=
 Cd (H:=hK 63) [(0,(.var .p 0)),(1,(.var .b 1)),(2,(.var .sl 2))] [uP a,uB b,uL c] rfl (by kernel_rfl) h
noncomputable def c298b:XB:=((AY (AF wz) [3,0,0,0]).drop 0).take 1
def w298b(a:XI)(b c:KB):MR:=λV R=>Af [uS b,uS c] 97 V λd V1=>R (rT #[uP a,uP (Aa d 0)]) V1
theorem s298b{a:XI}{b c:KB}{V:Mem}{R:KZ}(h:w298b a b c V (OV R)):AS xV 63 c298b [(7,uP a),(26,uA #[uS b,uS c])] [7,9] V R:=
 Cd (H:=hK 63) [(7,(.var .p 0)),(26,(.agg (.cons (.var .s 1) (.cons (.var .s 2) .nil))))] [uP a,uS b,uS c] rfl (by kernel_rfl) h
noncomputable def c298c:XB:=((AY (AF wz) [3,0,0,1]).drop 0).take 1
def w298c(a b:XI):MR:=λV R=>¬a=none/\∃c,V.rowp a 1 1=some [uM c]/\¬b=none/\∃d,V.rowp b ((0:Int).toNat*1) 1=some [uS d]/\¬b=none/\∃g,V.rowp b 1 1=some [uS g]/\Co xV 321 (uM c) (uS d) (uS g) V λV1=>R (rT #[]) V1
theorem s298c{a b:XI}{V:Mem}{R:KZ}(h:w298c a b V (OV R)):AS xV 63 c298c [(7,uP a),(9,uP b)] [] V R:=
 Cd (H:=hK 63) [(7,(.var .p 0)),(9,(.var .p 1))] [uP a,uP b] rfl (by kernel_rfl) h
noncomputable def c298d:XB:=((AY (AF wz) []).drop 4).take 4
def w298d(a:XI)(b:Bool)(c:Sl)(d g:XI):MR:=λV R=>GenK xV (.makeMap 393 none) 393 (gv []) V λx V1=>∃i,x=uM i/\R3 [uI 0] V1 λj J V2=>Br (j<(c.n:Int)) (R1 V2 c j (λk=>R3 [uI 0] V2 λl y z=>Br (l<(k.n:Int)) (R9 z k l (λo p=>BE xV 393 (uM i) (uS o) false z λx=>∃q,x=uB q/\Ac q (R4 l y z) (¬g=none/\∃r,z.rowp g 1 1=some [uM r]/\Co xV 321 (uM r) (uS o) (uS p) z λG=>Co xV 393 (uM i) (uS o) (.bool true) G λN=>R4 l y N))) (R4 j J z))) (∃k l o,V2.rowp g ((0:Int).toNat*1) 3=some [uP k,uM l,uB o]/\Am d 0 [uP k,uM l,uB o] V2 λz=>R (rT #[uP d]) z)
theorem s298d{a:XI}{b:Bool}{c:Sl}{d g:XI}{V:Mem}{R:KZ}(h:w298d a b c d g V (OV R)):AS xV 63 c298d [(0,uP a),(1,uB b),(2,uL c),(6,uP d),(7,uP g)] [6] V R:=
 Cd (H:=hK 63) [(0,(.var .p 0)),(1,(.var .b 1)),(2,(.var .sl 2)),(6,(.var .p 3)),(7,(.var .p 4))] [uP a,uB b,uL c,uP d,uP g] rfl (by kernel_rfl) h
noncomputable def c125a:XB:=((AY (AF wy) []).drop 0).take 3
def w125a(a:KB)(b c d g i j k:Sl):MR:=λV R=>GenK xV (.makeMap 244 none) 244 (gv []) V λx V1=>∃l,x=uM l/\GenK xV (.makeMap 245 none) 245 (gv []) V1 λx V2=>∃o,x=uM o/\TT 169 #[uL b] V2 λe z=>∃p,K.f.ok p/\e=rV p/\Af [uS a,uL b,uL c,uL d,uL g,uL i,uL j,uL k] 30 z λq y=>Af [uS a,uL b,uL c,uL d,uL g,uL i,uL j,uL k,uM l,uM o] 247 y λr J=>Af [uP (Aa r 0)] 205 J λs G=>R (rT #[uP (Aa q 0),uP (Aa s 0),K.cast .f p]) G
theorem s125a{a:KB}{b c d g i j k:Sl}{V:Mem}{R:KZ}(h:w125a a b c d g i j k V (OV R)):AS xV 38 c125a [(0,uD a b c d g i j k)] [1,3,15] V R:=
 Cd (H:=hK 38) [(0,(.agg (.cons (.var .s 0) (.cons (.var .sl 1) (.cons (.var .sl 2) (.cons (.var .sl 3) (.cons (.var .sl 4) (.cons (.var .sl 5) (.cons (.var .sl 6) (.cons (.var .sl 7) .nil))))))))))] [uS a,uL b,uL c,uL d,uL g,uL i,uL j,uL k] rfl (by kernel_rfl) h
noncomputable def c125b:XB:=((AY (AF wy) [3,0,0,0]).drop 0).take 1
def w125b(a:XI)(b:KB)(c:Sl):MR:=λV R=>Af [uS b,uL c] 99 V λd V1=>R (rT #[uP a,uP (Aa d 0)]) V1
theorem s125b{a:XI}{b:KB}{c:Sl}{V:Mem}{R:KZ}(h:w125b a b c V (OV R)):AS xV 38 c125b [(3,uP a),(17,uA #[uS b,uL c])] [3,5] V R:=
 Cd (H:=hK 38) [(3,(.var .p 0)),(17,(.agg (.cons (.var .s 1) (.cons (.var .sl 2) .nil))))] [uP a,uS b,uL c] rfl (by kernel_rfl) h
noncomputable def c125c:XB:=((AY (AF wy) [3,0,0,1]).drop 0).take 1
def w125c(a b:XI):MR:=λV R=>∃c,V.rowp a ((0:Int).toNat*1) 1=some [uP c]/\N2 c (∃d,V.rowp c 8 1=some [uM d]/\¬b=none/\∃g,V.rowp b ((0:Int).toNat*1) 1=some [uS g]/\∃i j,V.rowp b ((0:Int).toNat*1) 2=some [uS i,uL j]/\Co xV 244 (uM d) (uS g) (uA #[uS i,uL j]) V λV1=>R (rT #[]) V1)
theorem s125c{a b:XI}{V:Mem}{R:KZ}(h:w125c a b V (OV R)):AS xV 38 c125c [(3,uP a),(5,uP b)] [] V R:=
 Cd (H:=hK 38) [(3,(.var .p 0)),(5,(.var .p 1))] [uP a,uP b] rfl (by kernel_rfl) h
noncomputable def c125d:XB:=((AY (AF wy) []).drop 4).take 1
def w125d(a b:XI):MR:=λV R=>¬a=none/\∃c,V.rowp a 3 1=some [uL c]/\TT 170 #[uL c] V λe V1=>∃d,K.f.ok d/\e=rV d/\R (rT #[uP b,K.cast .f d]) V1
theorem s125d{a b:XI}{V:Mem}{R:KZ}(h:w125d a b V (OV R)):AS xV 38 c125d [(1,uP a),(3,uP b)] [3,27] V R:=
 Cd (H:=hK 38) [(1,(.var .p 0)),(3,(.var .p 1))] [uP a,uP b] rfl (by kernel_rfl) h
noncomputable def c125e:XB:=((AY (AF wy) [5,0,0,0]).drop 0).take 1
def w125e(a:XI)(b:KB)(c:Sl)(d:KB)(g i:Sl):MR:=λV R=>Af [uS b,uL c,uS d,uL g,uL i] 72 V λj V1=>R (rT #[uP a,uP (Aa j 0)]) V1
theorem s125e{a:XI}{b:KB}{c:Sl}{d:KB}{g i:Sl}{V:Mem}{R:KZ}(h:w125e a b c d g i V (OV R)):AS xV 38 c125e [(3,uP a),(29,uA #[uS b,uL c,uS d,uL g,uL i])] [3,7] V R:=
 Cd (H:=hK 38) [(3,(.var .p 0)),(29,(.agg (.cons (.var .s 1) (.cons (.var .sl 2) (.cons (.var .s 3) (.cons (.var .sl 4) (.cons (.var .sl 5) .nil)))))))] [uP a,uS b,uL c,uS d,uL g,uL i] rfl (by kernel_rfl) h
noncomputable def c125f:XB:=((AY (AF wy) [5,0,0,1]).drop 0).take 1
def w125f(a b:XI):MR:=λV R=>∃c,V.rowp a ((0:Int).toNat*1) 1=some [uP c]/\N2 c (∃d,V.rowp c 9 1=some [uM d]/\¬b=none/\∃g,V.rowp b ((0:Int).toNat*1) 1=some [uS g]/\∃i j k l o,V.rowp b ((0:Int).toNat*1) 5=some [uS i,uL j,uS k,uL l,uL o]/\Co xV 245 (uM d) (uS g) (uA #[uS i,uL j,uS k,uL l,uL o]) V λV1=>R (rT #[]) V1)
theorem s125f{a b:XI}{V:Mem}{R:KZ}(h:w125f a b V (OV R)):AS xV 38 c125f [(3,uP a),(7,uP b)] [] V R:=
 Cd (H:=hK 38) [(3,(.var .p 0)),(7,(.var .p 1))] [uP a,uP b] rfl (by kernel_rfl) h
noncomputable def c125g:XB:=((AY (AF wy) []).drop 6).take 1
def w125g(a:XI):MR:=λV R=>∃b,V.rowp a ((0:Int).toNat*1) 1=some [uP b]/\R (rT #[uP b]) V
theorem s125g{a:XI}{V:Mem}{R:KZ}(h:w125g a V (OV R)):AS xV 38 c125g [(3,uP a)] [2] V R:=
 Cd (H:=hK 38) [(3,(.var .p 0))] [uP a] rfl (by kernel_rfl) h
noncomputable def c194a:XB:=((AY (AF Tryz.f194) []).drop 0).take 1
def w194a(a:XI)(b:Value):MR:=λV R=>Af [uP a] 227 V λc V1=>Af [uI 0] 3 V1 λd V2=>Af [uI 0] 42 V2 λg z=>R (rT #[K.cast .f b,uP (Aa c 0),uP (Aa d 0),uP (Aa g 0)]) z
theorem s194a{a:XI}{b:Value}{V:Mem}{R:KZ}(h:w194a a b V (OV R)):AS xV 9 c194a [(0,uP a),(1,K.cast .f b)] [1,2,4,5] V R:=
 Cd (H:=hK 9) [(0,(.var .p 0)),(1,(.var .f 1))] [uP a,b] rfl (by kernel_rfl) h
noncomputable def Fh:XW:=Cq ((AY (AF Tryz.f194) []).getD 2 .skip)
def w194b(a b:XI)(c:Int):MR:=λV R=>Am a 0 [uI c] V λV1=>Am b 0 [uI 0] V1 λV2=>R (rT #[uP a,uP b]) V2
theorem s194b{a b:XI}{c:Int}{V:Mem}{R:KZ}(h:w194b a b c V (OV R)):CS xV 9 Fh 2 2 [(4,uP a),(5,uP b),(8,uI c)] [4,5] V R:=
 FF (H:=hK 9) [(4,(.var .p 0)),(5,(.var .p 1)),(8,(.var (.i .i64) 2))] [uP a,uP b,uI c] rfl (by kernel_rfl) h
noncomputable def c257a:XB:=((AY (AF Tryz.f257) []).drop 1).take 2
def w257a(a b c:XI)(d:Value):MR:=λV R=>GenK xV (.binOp .neq 20 (.tmp 7) (.const .nilIface) 20) 4 (gv [(7,K.cast .r d)]) V λx V1=>∃g,x=uB g/\Ac g (GenK xV (.typeAssert (.tmp 10) 20 341 true) 342 (gv [(10,K.cast .r d)]) V1 λx V2=>∃i j,x=.tuple #[uA #[uI i],uB j]/\Ac j (Am a 0 [uI 0] V2 λy=>Am b 0 [uI i] y λz=>∃k,z.rowp c ((0:Int).toNat*1) 1=some [uP k]/\N2 k (∃l,z.rowp k 11 1=some [uM l]/\GenK xV (.call {callee:=(.builtin .clear),args:=#[(.tmp 22)],argTypes:=#[269]}) 0 (gv [(22,uM l)]) z λx q=>x=.tuple #[]/\R (rT #[]) q)) (∃t x,K.cast .r d=.iface t x/\R (.panicked [{v:=.iface t x,recovered:=false}]) V2)) (R (rT #[]) V1)
theorem s257a{a b c:XI}{d:Value}{V:Mem}{R:KZ}(h:w257a a b c d V (OV R)):AS xV 23 c257a [(0,uP a),(1,uP b),(2,uP c),(3,K.cast .r d)] [] V R:=
 Cd (H:=hK 23) [(0,(.var .p 0)),(1,(.var .p 1)),(2,(.var .p 2)),(3,(.var .r 3))] [uP a,uP b,uP c,d] rfl (by kernel_rfl) h
end
end Go.Proofs
namespace Go.Sx
open Go
section
variable{P:Program}
def Has(N:Nat)(a:Act)(l:List (Nat×Value)):Prop:=a.tmps.size=N/\∀s v,l.lookup s=some v->a.tmps.getD s undef=v
theorem AS.step{r:XU}{n N:Nat}{Q:Exit->Act->World->Prop}{cs rest:XB}{ins:List (Nat×Value)}{outs:XA}{V:Mem}{R:KZ}{a:Act}{w:World}(h:AS P N cs ins outs V R)(z:V.le w)(ha:Has N a ins)
  (k:∀g w' vs V',g.defers=a.defers->Has N g (outs.zip vs)->R vs V'->Ax V w V' w'->Cy r n P Q rest g w'):Cy r n P Q (cs++rest) a w:=by
 refine NB (Fg ?_ (h r n a w z ha.1 ha.2));rintro e g w' ⟨rfl,y,l,vs,V',q,o,p⟩;exact k g w' vs V' y ⟨l,q⟩ o p
theorem CS.step{r:XU}{n N k m:Nat}{Q:Exit->Act->World->Prop}{ops:XW}{rest:XA}{ins:List (Nat×Value)}{outs:XA}{V:Mem}{R:KZ}{a:Act}{w:World}(h:CS P N ops k m ins outs V R)(y:V.le w)(ha:Has N a ins)
  (l:∀g w' vs V',g.defers=a.defers->Has N g (outs.zip vs)->R vs V'->Ax V w V' w'->wpOpsIn (AB r) n P ops Q rest g w'):wpOpsIn (AB r) n P ops Q (wK k m++rest) a w:=by
 refine Qv (λc a w z=>by cases z.1) (λ⟨_,_,z⟩=>by cases z.1) ?_ (h r n a w y ha.1 ha.2);rintro g w' ⟨_,q,o,vs,V',p,J,G⟩;exact l g w' vs V' q ⟨o,p⟩ J G
theorem yield_op{ops:XW}{i:Nat}{o:Oper}{c:Call}{fv:Operand}{l:Nat}{g:Loop}{args:XQ}{rest:XA}{Q:Exit->Act->World->Prop}{a:Act}{w:World}(J:ops[i]?=some o)(G:o.guard=none)(q:o.op=.call c)(hc:c.callee=.value fv)
  (hf:a.eval fv=.func (.yield l) #[] #[]) (z:c.args.map a.eval=args) (hl:w.heap[l]?=some (.loop g)) (Z:args.size=g.params.size)
  (N:RoundIn (AB none) 0 P l g.fn ((g.params.zip args).foldl (λt (p,v)=>t.setIfInBounds p v) g.tmps) g.assign g.body w λe w'=>∃v,e=.returned v/\wpOpsIn (AB none) 0 P ops Q rest (a.put o.dst v) w'):
  wpOpsIn (AB none) 0 P ops Q (i::rest) a w:=by
 rw[wpOpsIn_cons];unfold wpOpIn;simp only[J];rw[if_pos (by simp[Region.wanted,G])];refine⟨λ_ _=>trivial,?_⟩;rw[Oper.semAt_eq _ _ _ (λd=>by simp_all)];have y:(execOp a.eval o).run P w=.ok (.round l g.fn ((g.params.zip args).foldl (λt (p,v)=>t.setIfInBounds p v) g.tmps) g.assign g.body) w:=by
  unfold execOp;simp only[q,resolve,hc,hf,z,Deferred.ofValue,zV,zX,zW,invoke];grind[run_yield]
 rw[y];refine⟨λh=>by simp[AB,wJ]at h,N.mono ?_⟩;simp_all
theorem Has.get{N:Nat}{a:Act}{l:List (Nat×Value)}(h:Has N a l){s:Nat}{v:Value}(g:l.lookup s=some v):a.tmps.getD s undef=v:=h.2 s v g
theorem LL{f:FuncId}{fn:Func}{c L B:Code}{b0 b1 id:Nat}{cA cB cE:XB}{ops:XW}{o6:Oper}{at6:Array TypeId}{fn':FuncId}{tmps:XQ}{ps:Array Tmp}{assign body:Code}{D:Nat}{l:Nat}{box:XI}{n:Nat}{el:Nat->Value}{J:Nat->Mem->Prop}{Bk:Mem->Prop}{V:Mem}
  (hf:P.funcs[f]?=some fn) (hb:fn.body=some c) (e1:flat c=cA++[.block b0 (.loop L)]) (e2:flat L=cB++([.cond (.tmp 8) .skip (.exit b0),.block b1 B]++cE)) (e3:flat B=[.region id ops false,.cond (.tmp 18) .ret .skip])
  (ho:ops[6]?=some o6) (hgd:o6.guard=none) (hop:o6.op=.call {callee:=.value (.tmp 11),args:=#[.tmp 12,.tmp 16],argTypes:=at6}) (X:o6.dst=some 17) (hsz:ops.size=8) (C:fn.results=#[]) (hN:fn.ntmps=19) (hps:ps.size=2)
  (hA:∀M,Bk M->AS P 19 cA [(0,.func (.yield l) #[] #[]),(1,.pointer box)] [0,1,3] M λvs V'=>V'=M/\vs=[.func (.yield l) #[] #[],.pointer box,.int .i64 ((n:Int)-1)])
  (hB:∀M (j:Int),AS P 19 cB [(0,.func (.yield l) #[] #[]),(1,.pointer box),(3,.int .i64 j)] [0,1,3,8] M λvs V'=>V'=M/\vs=[.func (.yield l) #[] #[],.pointer box,.int .i64 j,.bool (decide (0<=j))])
  (hC:∀M (k:Nat),Bk M->k<n->CS P 19 ops 0 6 [(0,.func (.yield l) #[] #[]),(1,.pointer box),(3,.int .i64 k)] [0,1,3,11,12,16] M λvs V'=>V'=M/\vs=[.func (.yield l) #[] #[],.pointer box,.int .i64 k,.func (.yield l) #[] #[],.int .i64 k,el k])
  (hD:∀M (j:Int) (b:Bool),CS P 19 ops 7 1 [(0,.func (.yield l) #[] #[]),(1,.pointer box),(3,.int .i64 j),(17,.bool b)] [0,1,3,18] M λvs V'=>V'=M/\vs=[.func (.yield l) #[] #[],.pointer box,.int .i64 j,.bool (!b)])
  (hE:∀M (j:Int),Bk M->0<=j->j<n->AS P 19 cE [(0,.func (.yield l) #[] #[]),(1,.pointer box),(3,.int .i64 j)] [0,1,3] M λvs V'=>V'=M/\vs=[.func (.yield l) #[] #[],.pointer box,.int .i64 (j-1)])
  (hJ:∀i V2,J i V2->V2 l=none->Bk (V2.set l (.loop (Bo fn' tmps ps assign body D))))
  (q:∀k,k<n->∀V2,J (n-1-k) V2->V2 l=none->∀w,(V2.set l (.loop (Bo fn' tmps ps assign body D))).le w->
   RoundIn (AB none) 0 P l fn' ((ps.zip #[.int .i64 k,el k]).foldl (λt (p,v)=>t.setIfInBounds p v) tmps) assign body w λe w'=>
    e=.returned (.bool true)/\∃V3,J (n-k) V3/\V3 l=none/\Ax (V2.set l (.loop (Bo fn' tmps ps assign body D))) w (V3.set l (.loop (Bo fn' tmps ps assign body D))) w')
  (h0:J 0 V) (hl:V l=none):
  Tri P f #[.func (.yield l) #[] #[],.pointer box] (V.set l (.loop (Bo fn' tmps ps assign body D))) λe V'=>(∃v,e=.returned v)/\∃V2,V'=V2.set l (.loop (Bo fn' tmps ps assign body D))/\V2 l=none/\J n V2:=by
 intro w hV;refine(callsIn_wide (n:=0)).1 (callsIn_of_wp (F:=AB none) hf hb trivial (FE ?_) rfl);rw[e1];have hH0:Has 19 {tmps:=#[.func (.yield l) #[] #[],.pointer box]++wM (fn.ntmps-(#[Value.func (.yield l) #[] #[],.pointer box]).size) undef,defers:=[]} [(0,.func (.yield l) #[] #[]),(1,.pointer box)]:=by
  constructor;.simp[hN]
  .intro s v g;simp only[yH]at g;split at g;.simp_all
   .split at g;.simp_all
    .cases g
 refine(hA _ (hJ 0 V h0 hl)).step hV hH0 ?_;rintro a1 w1 vs V1 hd1 hH1 ⟨rfl,rfl⟩ hF1;refine wpIn_block ?_;refine NA (λm a w'=>∃(i:Nat)(V2:Mem),i<=n/\m=n-i/\J i V2/\V2 l=none/\a.defers=[]/\Has 19 a [(0,.func (.yield l) #[] #[]),(1,.pointer box),(3,.int .i64 ((n:Int)-1-i))]/\
  Ax (V.set l (.loop (Bo fn' tmps ps assign body D))) w (V2.set l (.loop (Bo fn' tmps ps assign body D))) w') ⟨n,0,V,by omega,rfl,h0,hl,hd1,by simpa using hH1,hF1⟩ ?_
 rintro m a2 w2 ⟨i,V2,hi,rfl,K,o,hd2,hH2,G⟩;refine FE ?_;rw[e2];refine(hB _ _).step G.le hH2 ?_;rintro a3 w3 vs V3 hd3 N ⟨rfl,rfl⟩ Z;have y:a3.eval (.tmp 8)=.bool (decide (0<=(n:Int)-1-i)):=N.get rfl;show wO (AB none) 0 P _ _ a3 w3;by_cases hlt:i<n
 .have Y:decide (0<=(n:Int)-1-i)=true:=by simp;omega
  rw[Y]at y;refine wpIn_cond_true y (wpIn_skip ?_);show wO (AB none) 0 P _ _ a3 w3;refine wpIn_block (FE ?_);rw[e3];have hk:((n:Int)-1-i)=((n-1-i:Nat):Int):=by omega
  have S:Has 19 a3 [(0,.func (.yield l) #[] #[]),(1,.pointer box),(3,.int .i64 ((n-1-i:Nat):Int))]:=⟨N.1,λs v g=>N.2 s v (by
   grind[wP])⟩
  refine wpIn_region ?_;rw[hsz,show List.range 8=wK 0 6++[6,7]from rfl];refine(hC _ (n-1-i) (hJ _ _ K o) (by omega)).step Z.le S ?_;rintro W w4 vs V4 hd4 z ⟨rfl,rfl⟩ A;have hl4:w4.heap[l]?=some (.loop (Bo fn' tmps ps assign body D)):=A.le _ _ (Mem.set_same _ _ _);refine yield_op (args:=#[.int .i64 ((n-1-i:Nat):Int),el (n-1-i)]) ho hgd hop rfl (z.get rfl) ?_ hl4 (by simp[Bo,hps]) ?_
  .have g1:W.eval (.tmp 12)=.int .i64 ((n-1-i:Nat):Int):=z.get rfl;have g2:W.eval (.tmp 16)=el (n-1-i):=z.get rfl;simp[g1,g2]
  refine(q (n-1-i) (by omega) V2 (by grind) o w4 A.le).mono ?_;rintro e w5 ⟨rfl,V5,hJ5,T,U⟩;refine⟨_,rfl,?_⟩;rw[X];have hlt17:(17:Nat)<W.tmps.size:=by rw[z.1];decide
  have hH5:Has 19 (W.put (some 17) (.bool true)) [(0,.func (.yield l) #[] #[]),(1,.pointer box),(3,.int .i64 ((n-1-i:Nat):Int)),(17,.bool true)]:=by
   refine⟨by simp[Act.put,z.1],λs v g=>?_⟩;have other:∀s,s≠17->(W.put (some 17) (.bool true)).tmps.getD s undef=W.tmps.getD s undef:=λs g=>by
    simp[Act.put,wx,Array.getElem?_setIfInBounds_ne (Ne.symm g)]
   simp only[yH]at g;split at g;.rename_i e;simp only[beq_iff_eq]at e;subst e;cases g;rw[other _ (by decide)];exact z.get rfl
   .split at g;.rename_i e;simp only[beq_iff_eq]at e;subst e;cases g;rw[other _ (by decide)];exact z.get rfl
    .split at g;.rename_i e;simp only[beq_iff_eq]at e;subst e;cases g;rw[other _ (by decide)];exact z.get rfl
     .split at g;.simp_all[beq_iff_eq,Act.put,wx]
      .cases g
  rw[show[7]=wK 7 1++[]from rfl];refine(hD _ _ true).step U.le hH5 ?_;rintro a6 w6 vs V6 hd6 I ⟨rfl,rfl⟩ hF6;show wO (AB none) 0 P (.cond (.tmp 18) .ret .skip) _ a6 w6;refine wpIn_cond_false (I.get rfl) (wpIn_skip ?_);rw[<-List.append_nil cE];refine(hE _ ((n-1-i:Nat):Int) (hJ _ _ hJ5 T) (by omega) (by omega)).step hF6.le ⟨I.1,λs v g=>I.2 s v ?_⟩ ?_;.grind[wP]
  rintro a7 w7 vs V7 hd7 hH7 ⟨rfl,rfl⟩ hF7;refine⟨n-(i+1),by omega,i+1,V5,by omega,rfl,?_,T,?_,?_,?_⟩;.grind
  .rw[hd7,hd6];show W.defers=[];grind
  .rw[show(n:Int)-1-((i+1:Nat):Int)=((n-1-i:Nat):Int)-1 by omega];exact hH7
  .exact((((G.trans Z).trans A).trans U).trans hF6).trans hF7
 .have hin:i=n:=by omega
  subst hin;have Y:decide (0<=(i:Int)-1-i)=false:=by simp;omega
  rw[Y]at y;refine wpIn_cond_false y (wpIn_exit ?_);show(if b0=b0 then _ else _);rw[if_pos rfl];refine⟨?_,_,results_none C _ _ _,_,⟨⟨_,rfl⟩,V2,rfl,o,K⟩,G.trans Z⟩;rw[hd3,hd2]
end
end Go.Sx
namespace Go.Proofs
open Go Go.Sx
attribute [local irreducible] Go.Sx.Tri
theorem GenK.makeMap{P:Program}{V:Mem}{t:TypeId}{ty:Nat}{vals:Operand->Value}{q:Value->Mem->Prop}(z:∀b,V b=none->q (.map (some b)) (V.set b (.map #[] 0))):GenK P (.makeMap t none) ty vals V q:=by
 intro w hw;have hn:V w.heap.size=none:=by
  cases hc:V w.heap.size with
  |none=>rfl
  |some o=>have:=(yN.1 (hw _ o hc)).1;omega
 refine⟨_,w.alloc (.map #[] 0),V.set w.heap.size (.map #[] 0),rfl,?_,z _ hn⟩;refine⟨by simp,λb o hb=>?_,λb hb _=>xq _ _ _ hb,λb hb=>?_,rfl,rfl⟩
 .by_cases e:b=w.heap.size;.grind[Mem.set_same,wS]
  .rw[Mem.set_ne e]at hb;have g:=(yN.1 (hw b o hb)).1;exact(xq _ _ _ g).trans (hw b o hb)
 grind[inr,Mem.set_ne]
theorem LM{α:Type}{V:Mem}{s:Sl}{sz:Nat}{row:α->XV}{xs:List α}(h:Ae V s sz (xs.map row)):K.inR .i64 ((s.n:Int)-1):=by
 have:=h.cap;have:=h.fit;exact⟨by omega,by omega⟩
theorem it351{V:Mem}{fn':FuncId}{tmps:XQ}{ps:Array Tmp}{assign body:Code}{D:Nat}{l:Nat}{bx:Nat}{s:Sl}{xs:XX}{J:Nat->Mem->Prop}(G:ps.size=2)
  (W:∀i V2,J i V2->V2 l=none->V2 bx=some (cell (uL s) 23)/\Ae V2 s 2 (xs.map Fld.row))
  (o:∀k x,xs[k]?=some x->∀V2,J (xs.length-1-k) V2->V2 l=none->∀w,(V2.set l (.loop (Bo fn' tmps ps assign body D))).le w->
   RoundIn (AB none) 0 xV l fn' ((ps.zip #[uI k,Fld.v x]).foldl (λt (p,v)=>t.setIfInBounds p v) tmps) assign body w λe w'=>
    e=EQ true/\∃N,J (xs.length-k) N/\N l=none/\Ax (V2.set l (.loop (Bo fn' tmps ps assign body D))) w (N.set l (.loop (Bo fn' tmps ps assign body D))) w')
  (A:J 0 V) (hl:V l=none):
  Tri xV 351 #[.func (.yield l) #[] #[],pv bx] (V.set l (.loop (Bo fn' tmps ps assign body D))) λe V'=>(∃v,e=.returned v)/\∃V2,V'=V2.set l (.loop (Bo fn' tmps ps assign body D))/\V2 l=none/\J xs.length V2:=by
 refine LL (c:=AF wX) (L:=kid ((AY (AF wX) [1,0]).getD 0 .skip) 0) (B:=kid ((AY (AF wX) [1,0,0,0]).getD 2 .skip) 0) (cA:=c351a) (cB:=c351b) (cE:=c351e) (ops:=c351c) (b0:=0) (b1:=1) (id:=3)
  (o6:=(c351c)[6]?.getD default) (at6:=#[3,97]) (el:=λk=>(xs[k]?.map Fld.v).getD undef) (Bk:=λM=>M bx=some (cell (uL s) 23)/\Ae M s 2 (xs.map Fld.row))
  Tryz.func351 (by kernel_rfl) (by kernel_rfl) (by kernel_rfl) (by kernel_rfl) (by kernel_rfl) (by kernel_rfl) (by kernel_rfl) (by kernel_rfl) (by kernel_rfl) (by kernel_rfl) (by kernel_rfl) G ?_ ?_ ?_ ?_ ?_ ?_ ?_ A hl
 .rintro M ⟨z,g⟩;refine s351a (a:=.func (.yield l) #[] #[]) (b:=some ⟨bx,0,none⟩) ?_;unfold w351a;exact⟨s,AD z,LM g,_,rfl,rfl,by rw[g.n_eq];rfl⟩
 .intro M j;refine s351b (a:=.func (.yield l) #[] #[]) (b:=some ⟨bx,0,none⟩) ?_;unfold w351b;exact⟨_,rfl,rfl,rfl⟩
 .rintro M k ⟨z,g⟩ hk;refine s351c (a:=.func (.yield l) #[] #[]) (b:=some ⟨bx,0,none⟩) ?_;unfold w351c;obtain⟨x,hm,I,X,C,Z,K,y⟩:=g.get (i:=k) (by rw[g.n_eq];omega);exact⟨s,AD z,Z,K,by rw[g.n_eq];omega,x.name,x.ty,y,_,rfl,rfl,by rw[I];rfl⟩
 .intro M j b;refine s351d (a:=.func (.yield l) #[] #[]) (b:=some ⟨bx,0,none⟩) ?_;unfold w351d;exact⟨_,rfl,rfl,rfl⟩
 .rintro M j ⟨z,g⟩ Y S;have T:=g.cap;have U:=g.fit;have hb3:=g.n_eq;refine s351e (a:=.func (.yield l) #[] #[]) (b:=some ⟨bx,0,none⟩) ?_;unfold w351e;exact⟨⟨by omega,by omega⟩,_,rfl,rfl,rfl⟩
 .intro i V2 Y q;obtain⟨z,g⟩:=W i V2 Y q;have e:bx≠l:=λe=>by simp_all
  exact⟨by rw[Mem.set_ne e];exact z,g.sub (Mem.sub_new q _)⟩
 simp_all
theorem it222{V:Mem}{fn':FuncId}{tmps:XQ}{ps:Array Tmp}{assign body:Code}{D:Nat}{l:Nat}{bx:Nat}{s:Sl}{xs:List Ty}{J:Nat->Mem->Prop}(G:ps.size=2)
  (W:∀i V2,J i V2->V2 l=none->V2 bx=some (cell (uL s) 22)/\Ae V2 s 2 (xs.map Ty.row))
  (o:∀k x,xs[k]?=some x->∀V2,J (xs.length-1-k) V2->V2 l=none->∀w,(V2.set l (.loop (Bo fn' tmps ps assign body D))).le w->
   RoundIn (AB none) 0 xV l fn' ((ps.zip #[uI k,Ty.v x]).foldl (λt (p,v)=>t.setIfInBounds p v) tmps) assign body w λe w'=>
    e=EQ true/\∃N,J (xs.length-k) N/\N l=none/\Ax (V2.set l (.loop (Bo fn' tmps ps assign body D))) w (N.set l (.loop (Bo fn' tmps ps assign body D))) w')
  (A:J 0 V) (hl:V l=none):
  Tri xV 222 #[.func (.yield l) #[] #[],pv bx] (V.set l (.loop (Bo fn' tmps ps assign body D))) λe V'=>(∃v,e=.returned v)/\∃V2,V'=V2.set l (.loop (Bo fn' tmps ps assign body D))/\V2 l=none/\J xs.length V2:=by
 refine LL (c:=AF wY) (L:=kid ((AY (AF wY) [1,0]).getD 0 .skip) 0) (B:=kid ((AY (AF wY) [1,0,0,0]).getD 2 .skip) 0) (cA:=c222a) (cB:=c222b) (cE:=c222e) (ops:=c222c) (b0:=0) (b1:=1) (id:=3)
  (o6:=(c222c)[6]?.getD default) (at6:=#[3,99]) (el:=λk=>(xs[k]?.map Ty.v).getD undef) (Bk:=λM=>M bx=some (cell (uL s) 22)/\Ae M s 2 (xs.map Ty.row))
  Tryz.func222 (by kernel_rfl) (by kernel_rfl) (by kernel_rfl) (by kernel_rfl) (by kernel_rfl) (by kernel_rfl) (by kernel_rfl) (by kernel_rfl) (by kernel_rfl) (by kernel_rfl) (by kernel_rfl) G ?_ ?_ ?_ ?_ ?_ ?_ ?_ A hl
 .rintro M ⟨z,g⟩;refine s222a (a:=.func (.yield l) #[] #[]) (b:=some ⟨bx,0,none⟩) ?_;unfold w222a;exact⟨s,AD z,LM g,_,rfl,rfl,by rw[g.n_eq];rfl⟩
 .intro M j;refine s222b (a:=.func (.yield l) #[] #[]) (b:=some ⟨bx,0,none⟩) ?_;unfold w222b;exact⟨_,rfl,rfl,rfl⟩
 .rintro M k ⟨z,g⟩ hk;refine s222c (a:=.func (.yield l) #[] #[]) (b:=some ⟨bx,0,none⟩) ?_;unfold w222c;obtain⟨x,hm,I,X,C,Z,K,y⟩:=g.get (i:=k) (by rw[g.n_eq];omega);exact⟨s,AD z,Z,K,by rw[g.n_eq];omega,x.name,x.fs,y,_,rfl,rfl,by rw[I];rfl⟩
 .intro M j b;refine s222d (a:=.func (.yield l) #[] #[]) (b:=some ⟨bx,0,none⟩) ?_;unfold w222d;exact⟨_,rfl,rfl,rfl⟩
 .rintro M j ⟨z,g⟩ Y S;have T:=g.cap;have U:=g.fit;have hb3:=g.n_eq;refine s222e (a:=.func (.yield l) #[] #[]) (b:=some ⟨bx,0,none⟩) ?_;unfold w222e;exact⟨⟨by omega,by omega⟩,_,rfl,rfl,rfl⟩
 .intro i V2 Y q;obtain⟨z,g⟩:=W i V2 Y q;have e:bx≠l:=λe=>by simp_all
  exact⟨by rw[Mem.set_ne e];exact z,g.sub (Mem.sub_new q _)⟩
 simp_all
theorem it223{V:Mem}{fn':FuncId}{tmps:XQ}{ps:Array Tmp}{assign body:Code}{D:Nat}{l:Nat}{bx:Nat}{s:Sl}{xs:List Pr}{J:Nat->Mem->Prop}(G:ps.size=2)
  (W:∀i V2,J i V2->V2 l=none->V2 bx=some (cell (uL s) 24)/\Ae V2 s 5 (xs.map Pr.row))
  (o:∀k x,xs[k]?=some x->∀V2,J (xs.length-1-k) V2->V2 l=none->∀w,(V2.set l (.loop (Bo fn' tmps ps assign body D))).le w->
   RoundIn (AB none) 0 xV l fn' ((ps.zip #[uI k,Pr.v x]).foldl (λt (p,v)=>t.setIfInBounds p v) tmps) assign body w λe w'=>
    e=EQ true/\∃N,J (xs.length-k) N/\N l=none/\Ax (V2.set l (.loop (Bo fn' tmps ps assign body D))) w (N.set l (.loop (Bo fn' tmps ps assign body D))) w')
  (A:J 0 V) (hl:V l=none):
  Tri xV 223 #[.func (.yield l) #[] #[],pv bx] (V.set l (.loop (Bo fn' tmps ps assign body D))) λe V'=>(∃v,e=.returned v)/\∃V2,V'=V2.set l (.loop (Bo fn' tmps ps assign body D))/\V2 l=none/\J xs.length V2:=by
 refine LL (c:=AF wZ) (L:=kid ((AY (AF wZ) [1,0]).getD 0 .skip) 0) (B:=kid ((AY (AF wZ) [1,0,0,0]).getD 2 .skip) 0) (cA:=c223a) (cB:=c223b) (cE:=c223e) (ops:=c223c) (b0:=0) (b1:=1) (id:=3)
  (o6:=(c223c)[6]?.getD default) (at6:=#[3,72]) (el:=λk=>(xs[k]?.map Pr.v).getD undef) (Bk:=λM=>M bx=some (cell (uL s) 24)/\Ae M s 5 (xs.map Pr.row))
  Tryz.func223 (by kernel_rfl) (by kernel_rfl) (by kernel_rfl) (by kernel_rfl) (by kernel_rfl) (by kernel_rfl) (by kernel_rfl) (by kernel_rfl) (by kernel_rfl) (by kernel_rfl) (by kernel_rfl) G ?_ ?_ ?_ ?_ ?_ ?_ ?_ A hl
 .rintro M ⟨z,g⟩;refine s223a (a:=.func (.yield l) #[] #[]) (b:=some ⟨bx,0,none⟩) ?_;unfold w223a;exact⟨s,AD z,LM g,_,rfl,rfl,by rw[g.n_eq];rfl⟩
 .intro M j;refine s223b (a:=.func (.yield l) #[] #[]) (b:=some ⟨bx,0,none⟩) ?_;unfold w223b;exact⟨_,rfl,rfl,rfl⟩
 .rintro M k ⟨z,g⟩ hk;refine s223c (a:=.func (.yield l) #[] #[]) (b:=some ⟨bx,0,none⟩) ?_;unfold w223c;obtain⟨x,hm,I,X,C,Z,K,y⟩:=g.get (i:=k) (by rw[g.n_eq];omega);exact⟨s,AD z,Z,K,by rw[g.n_eq];omega,x.name,x.ps,x.result,x.ls,x.bs,y,_,rfl,rfl,by rw[I];rfl⟩
 .intro M j b;refine s223d (a:=.func (.yield l) #[] #[]) (b:=some ⟨bx,0,none⟩) ?_;unfold w223d;exact⟨_,rfl,rfl,rfl⟩
 .rintro M j ⟨z,g⟩ Y S;have T:=g.cap;have U:=g.fit;have hb3:=g.n_eq;refine s223e (a:=.func (.yield l) #[] #[]) (b:=some ⟨bx,0,none⟩) ?_;unfold w223e;exact⟨⟨by omega,by omega⟩,_,rfl,rfl,rfl⟩
 .intro i V2 Y q;obtain⟨z,g⟩:=W i V2 Y q;have e:bx≠l:=λe=>by simp_all
  exact⟨by rw[Mem.set_ne e];exact z,g.sub (Mem.sub_new q _)⟩
 simp_all
end Go.Proofs
