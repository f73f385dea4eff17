/- Part 13: no statement of the seat is proved here. -/
import Derived.Test.YtgdmkmfchcflpaaGreatDoorPe12
set_option linter.unusedVariables false
set_option linter.unusedSimpArgs false
open List renaming length->uQ,map_append->yP,sum_append->uR,length_map->wq,mem_map->wc,mem_append_right->uz,ext_getElem?->zx,getElem?_map->y4,getElem?_eq_getElem->yu,getElem?_eq_none->uy,append_assoc->zH,getElem?_eq_some_iff->yv,mem_append->wZ,length_append->zw,length_take->wX,replicate->yJ,length_set->vp,length_replicate->vx,mem_cons_of_mem->za,mem_cons_self->zb,foldl_cons->wm,mem_map_of_mem->vo,mem_of_mem_take->wW,getElem_mem->yo,take_add_one->wh,foldl_append->vH,take_of_length_le->wH,mem_of_getElem?->xQ,length_drop->wY,length_range->vl,any_eq_true->uw,mem_iff_getElem?->wb,nodup_append->uJ,mem_singleton->zO,mem_flatMap->uv,mem_cons->yD,length_cons->zy,flatMap_cons->yc,cons_append->zI,drop_left'->wx,take_append_drop->vz,mem_range->yY,drop_drop->vY,append_nil->xp,foldl_nil->uu
open Int renaming toNat_natCast->vM
open Nat renaming le_refl->yV
open Go.Proofs.Tryz renaming prog->xE,underlying34->ur,underlying5->uq,underlying9->xW
open Option renaming map_some->zJ,toList_some->ux,bind_some->zr
open Option.some renaming injEq->zF
open List.cons renaming injEq->yE
open Bool renaming and_eq_true->zC
open Prod.mk renaming injEq->zS
open Go.IntKind renaming bits->zR,wrap->xF,i64->yr,signed->zQ
namespace Go.Proofs
open Go Go.Sx
theorem dir_ok{n:Nat}(hn:32<=n)(w:n<=256){codes:List (List Int)}(i:(codes.map uQ).sum<=12000)(r:codes.length<=30):DirOk n (AZ n codes):=by
 have q:=dist_n hn codes;have g:∀b∈codes,b.length<=12000:=λb g=>by
  obtain⟨u,v,rfl⟩:=List.append_of_mem g;simp only[yP,uR,List.map_cons,List.sum_cons]at i;omega
 refine⟨by rw[AZ,wq];omega,by rw[AZ,wq];exact r,λy t=>?_,λy t=>?_⟩
 ·obtain⟨c,hc,rfl⟩:=wc.1 t;obtain⟨b,-,g⟩:=Jw _ c hc;have:=(Hv (by omega) b c g).2;exact⟨by omega,by omega⟩
 ·obtain⟨b,f,rfl⟩:=wc.1 t;have:=g b f;refine⟨⟨by simp only[CZ];omega,by simp only[CZ];omega⟩,by simp only[CZ];omega,?_,λz hz=>?_⟩
  ·simp only[CZ,wq,vM];exact ES (by omega) b
  ·obtain⟨c,hc,rfl⟩:=wc.1 hz;have:=ixC_lt (Jv f hc);exact⟨this.1,by omega⟩
section
variable{k k':Dk}{codes l:List (List Int)}
theorem AX.next(h:AX k codes)(A:((codes++l).map uQ).sum<=12000)(I:(codes++l).length<=30)(hv:AY k'=true)(z:k'.page=k.page)(hr:(Ao k'.page.toNat k'.data).1=(Ao k.page.toNat k.data).1++[BM k.page.toNat codes l]):AX k' (codes++l):=by
 have hn:=h.n32;obtain⟨S,T,-⟩:=BF h.ok;obtain⟨n,g⟩:∃n,n=k.page.toNat:=⟨_,rfl⟩;rw[<-g]at hn hr;have G:n<=256:=by omega
 obtain⟨⟨L,-,R⟩,hm,-⟩:=svPg_ok hn A I;obtain⟨y,N⟩:=Ia L;have M:Bh k'=(BM n codes l).foldl (CB n) (Bh k):=by
  unfold Bh;rw[hr,z,<-g,Mt]
 have q:∀x∈BM n codes l,(Bh k')[x.1.toNat]?=some x.2:=by
  rw[M];exact fold_at _ _ N λx t=>(y x t).1
 have w:∀j c,(AK n (BE (AZ n (codes++l))))[j]?=some c->(Bh k')[j]?=some (Bz n c):=λj c Z=>by
  have:=q _ (uz _ (dirPg_at Z));simpa using this
 have X:(AK n (BE (AZ n (codes++l)))).length<=100:=by
  have:=hm;rw[CS,wq,List.length_zipIdx]at this;exact this
 have a:Bh k'≠[]:=by
  have C:BE (AZ n (codes++l))≠[]:=by simp[BE]
  have:=w 0 _ (by rw[GJ (by omega) C];rfl);intro e;rw[e]at this;cases this
 have v:∃r,strK k'=BE (AZ n (codes++l))++r:=by
  obtain⟨r,hr⟩:=pad_flat (n:=n) (by omega) (BE (AZ n (codes++l)));have E:(Bh k').take (AK n (BE (AZ n (codes++l)))).length=(AK n (BE (AZ n (codes++l)))).map (Bz n):=by
   refine zx λi=>?_;rw[y4,List.getElem?_take];by_cases f:i<(AK n (BE (AZ n (codes++l)))).length;·rw[if_pos f,w i _ (yu f),yu f];rfl
   ·rw[if_neg f,uy (by omega)];rfl
  unfold strK;rw[show 100=(AK n (BE (AZ n (codes++l)))).length+(100-(AK n (BE (AZ n (codes++l)))).length)by omega,List.take_add,List.flatten_append,E,hr,zH];exact⟨_,rfl⟩
 have Y:=h.page;refine⟨hv,by rw[z];exact Y,?_,?_⟩
 ·obtain⟨r,hr⟩:=v;unfold Au;rw[hv,if_neg (by simp),if_neg a,if_neg (by rw[z];omega),z,<-g,hr,open_dir (dir_ok hn G A I)]
 ·rw[z,<-g];intro i c f;obtain⟨D,F⟩:=K7 n codes l;have H:BM n codes l=accC n (Aw n codes) D++CS n (AZ n (codes++l)):=by
   unfold BM;rw[F,List.drop_left]
  rw[F]at f;by_cases O:i<(Aw n codes).length
  ·rw[List.getElem?_append_left O]at f;have J:=h.at_;rw[<-g]at J;have J:=J i c f;rw[M,KW _ _ _ (λx t=>?_) (yv.1 J).1,J];rw[H]at t;rcases wZ.1 t with t|t
   ·obtain⟨j,K,-,rfl⟩:=Jy t;simp only;omega
   ·obtain⟨j,K,Z,rfl⟩:=Jz t;have:=(yv.1 Z).1;simp only;omega
  ·rw[List.getElem?_append_right (by omega)]at f;have:=q _ (by rw[H];exact List.mem_append_left _ (acc_at f));simp only at this;rw[<-this];congr 1;omega
end
end Go.Proofs
namespace Go.Proofs
open Go Go.Sx
theorem commit_eq{k:Dk}{P:List (Int×List Int)}(hv:AY k=true)(g:PgsOk k.page.toNat P)(t:(Ao k.page.toNat k.data).2+(AF P).length<=1048576):CC k P=CJ k (AF P):=by
 obtain⟨w,z,-⟩:=BF hv;obtain⟨hr,hn⟩:=Ia g.ok;unfold CC;rw[if_neg (by rw[hv];simp),if_neg ?_,if_neg (by have:=g.len;omega),if_neg ?_,if_neg (not_not_intro hn),if_neg (by omega)]
 ·rintro⟨x,f,h⟩;have:=hr x f;omega
 ·rintro⟨x,f,h⟩;have:=g.page x f;omega
theorem write_ok{k:Dk}{P:List (Int×List Int)}(hv:AY k=true)(g:PgsOk k.page.toNat P)(z:(Ao k.page.toNat k.data).2+(AF P).length<=1048576)(y:k.aft<0∨(0<k.aft/\((AF P).length:Int)<=k.aft)):
  ∃k',CJ k (AF P)=(k',0)/\AY k'=true/\k'.page=k.page/\Ao k'.page.toNat k'.data=((Ao k.page.toNat k.data).1++[P],(Ao k.page.toNat k.data).2+(AF P).length)/\k'.syn=(Ao k'.page.toNat k'.data).2/\k'.data.length=(Ao k'.page.toNat k'.data).2/\k'.aft=if 0<k.aft then k.aft-(AF P).length else k.aft:=by
 obtain⟨f,t,i,r,q,c,a⟩:=BF hv;have w:=Fz k.page.toNat _ k.data (yV _);have hw:=write_recs g.len g.ok g.page;have hl:(k.data.take (Ao k.page.toNat k.data).2++AF P).length=(Ao k.page.toNat k.data).2+(AF P).length:=by
  rw[zw,wX];omega
 refine⟨⟨k.page,k.data.take (Ao k.page.toNat k.data).2++AF P,(Ao k.page.toNat k.data).2+(AF P).length,if 0<k.aft then k.aft-(AF P).length else k.aft⟩,?_,?_,rfl,hw,?_,?_,rfl⟩
 ·unfold CJ;simp only;rw[if_neg (by omega),if_pos (by omega)]
 ·unfold AY;simp only;rw[hw,hl];simp only;exact decide_eq_true ⟨f,t,by omega,by split<;>omega,by split<;>omega,by omega,by omega⟩
 ·simp only;rw[hw];rfl
 ·simp only;rw[hw,hl]
theorem write_torn{k:Dk}{P:List (Int×List Int)}(hv:AY k=true)(f:PgsOk k.page.toNat P)(r:(Ao k.page.toNat k.data).2+(AF P).length<=1048576)(q:0<=k.aft/\k.aft<(AF P).length):
  ∃k',CJ k (AF P)=(k',27)/\AY k'=true/\k'.page=k.page/\Ao k'.page.toNat k'.data=Ao k.page.toNat k.data/\k'.aft=0:=by
 obtain⟨w,z,c,a,v,H,J⟩:=BF hv;have y:=Fz k.page.toNat _ k.data (yV _);by_cases g:k.aft=0;·exact⟨k,by unfold CJ;simp only;rw[if_pos g],hv,rfl,rfl,g⟩
 have i:k.aft.toNat<(AF P).length:=by omega
 have t:=K1 (k:=k) f.len f.page i;refine⟨⟨k.page,k.data.take (Ao k.page.toNat k.data).2++(AF P).take k.aft.toNat,(Ao k.page.toNat k.data).2,0⟩,?_,?_,rfl,t,rfl⟩
 ·unfold CJ;simp only;rw[if_neg g,if_neg (by omega)]
 ·unfold AY;simp only;rw[t];refine decide_eq_true ⟨w,z,?_,by omega,by omega,by omega,by omega⟩;rw[zw,wX,wX];omega
def By(page aft:Int):Dk:=⟨page,[],0,aft⟩
theorem JA{page aft:Int}(g:32<=page)(f:page<=256)(t:-1<=aft)(w:aft<=1048576):AX (By page aft) []:=by
 have hr:Ao page.toNat []=([],0):=Ib _;have hv:AY (By page aft)=true:=by
  unfold AY By;simp only;rw[hr];exact decide_eq_true ⟨by omega,f,by simp,t,w,by omega,by simp⟩
 have z:Bh (By page aft)=[]:=by
  unfold Bh By;simp only;rw[hr];rfl
 refine⟨hv,g,?_,λi c y=>?_⟩
 ·unfold Au;rw[hv,if_neg (by simp),if_pos z];rfl
 ·simp[Aw]at y
end Go.Proofs
namespace Go.Proofs
open Go Go.Sx
attribute [local irreducible] Go.Sx.Tri
section
variable{V:Mem}{s:Sl}
def Dk.v(k:Dk)(s:Sl):Value:=.agg #[.int .i64 k.page,s.v,.int .i64 k.syn,.int .i64 k.aft]
theorem setPg_grow{page:Nat}{out:List (List Int)}{x:Int×List Int}{j:Nat}(g:out.length+j=max out.length (x.1.toNat+1)):(out++yJ j (zeroP page)).set x.1.toNat x.2=CB page out x:=by
 unfold CB;rw[show x.1.toNat+1-out.length=j by omega]
theorem setPg_len{page:Nat}(out:List (List Int))(x:Int×List Int):(CB page out x).length=max out.length (x.1.toNat+1):=by
 unfold CB;rw[vp,zw,vx];omega
theorem K9{page:Nat}:∀(l:List (Int×List Int))(out:List (List Int)),(∀x∈l,x.1<1000)->(l.foldl (CB page) out).length<=max out.length 1000
 |[],out,_=>by simp;omega
 |x::l,out,h=>by
  have:=K9 (page:=page) l (CB page out x) λy g=>h y (za _ g);have f:=h x zb;rw[setPg_len]at this;rw[wm];omega
theorem c121{k:Dk}(h:Bt V s k.data)(hv:AY k=true):Tri xE 121 #[k.v s] V λe V'=>V.sub V'/\∃o:Sl,e=.returned o.v/\Ls V' o (Bh k):=by
 obtain⟨R,hR⟩:∃R:Ending->Mem->Prop,R=λe V'=>V.sub V'/\∃o:Sl,e=.returned o.v/\Ls V' o (Bh k):=⟨_,rfl⟩;rw[<-hR];obtain⟨v1,v2,v3,-⟩:=BF hv;obtain⟨pg,E⟩:∃pg:Nat,k.page=pg:=⟨k.page.toNat,by omega⟩;refine x121 ?_;rw[E];refine Tri.mono (If h (by omega) (page:=pg) (by omega) (by omega)) ?_;rintro _ V1 ⟨s1,r,rs,rfl,H,hl⟩;refine⟨r,_,rfl,?_⟩;have hpk:Bh k=Fb pg (rs.map λr:RecS=>r.l):=by unfold Bh;rw[E,vM,hl]
 have K:∀r∈rs,∀x∈r.l,x.2.length=pg/\0<=x.1/\x.1<1000:=λr hr=>KY pg _ k.data (yV _) r.l (by rw[<-hl];exact vo hr);have S:∀i,(Fb pg ((rs.take i).map λr:RecS=>r.l)).length<=1000:=λi=>by
  refine Nat.le_trans (K9 _ _ λx I=>?_) (by simp);obtain⟨l,hl,I⟩:=List.mem_flatten.1 I;obtain⟨r,hr,rfl⟩:=wc.1 hl;exact(K r (wW hr) x I).2.2
 refine Cz (mk:=λs:Sl=>.slice s.p s.n s.c) AG rs.length (λi o V2=>∃D,V1.sub D/\Bn D V2 o (Fb pg ((rs.take i).map λr:RecS=>r.l))) ⟨V1,Mem.sub.refl _,Bn.start V1⟩ ?_;rintro i o V2 J hi ⟨D,hD,T⟩ hJ;refine⟨λM=>?_,λhge=>?_⟩
 ·have s2:=hD.trans T.sub;obtain⟨x,U,I,-,hil,hp,hz,hrow⟩:=(H.rows.sub s2).get M;have f:=H.pg x U;have Z:=K x U;refine⟨hp,hz,M,x.sp,x.sd,x.en,hrow,?_⟩;refine Cz (mk:=λs:Sl=>.slice s.p s.n s.c) AG x.l.length (λj o V3=>∃D,V1.sub D/\Bn D V3 o ((x.l.take j).foldl (CB pg) (Fb pg ((rs.take i).map λr:RecS=>r.l)))) ⟨D,hD,T⟩ ?_;rintro j o V3 J1 hj ⟨D3,F,z⟩ hJ1;have hsn:x.sp.n=x.l.length:=by rw[f.nums.n_eq,wq]
  refine⟨λt=>?_,λY=>?_⟩
  ·have s3:=F.trans z.sub;have t:(j:Int)<(x.sp.n:Int):=t;have L:j<x.l.length:=by omega
   obtain⟨y,-,hy,-,-,hp2,hz2,X⟩:=(f.nums.sub s3).get t;have hg:=yu L;rw[y4,hg]at hy;simp only[zJ,zF]at hy;subst hy;obtain⟨q1,q2,q3⟩:=Z _ (yo L);generalize O:(x.l.take j).foldl (CB pg) (Fb pg ((rs.take i).map λr:RecS=>r.l))=out at z;have holen:out.length<=1000:=by
    rw[<-O];have:=K9 (page:=pg) (x.l.take j) (Fb pg ((rs.take i).map λr:RecS=>r.l)) λx I=>(Z x (wW I)).2.2;have:=S i;omega
   refine⟨hp2,hz2,t,_,X,?_⟩;refine⟨λm xs V4=>∃(o4:Sl)(D4:Mem)(c:Nat),m=2000-(out.length+c)/\out.length+c<=max out.length ((x.l[j]).1.toNat+1)/\xs=[.slice o4.p o4.n o4.c]/\V1.sub D4/\Bn D4 V4 o4 (out++yJ c (zeroP pg)),2000-out.length,⟨o,D3,0,by simp,by omega,rfl,F,by simpa using z⟩,?_⟩;rintro m V4 C ⟨o4,D4,c,rfl,hc,hxs,G,q⟩ J2 hJ2;simp only[yE,and_true]at hxs;cases AG _ _ hxs;have s4:=G.trans q.sub;have hn4:C.n=out.length+c:=by rw[q.ls.n,zw,vx]
   refine⟨λw=>?_,λa=>?_⟩
   ·have w:(C.n:Int)<=(x.l[j]).1:=w;refine mk34 (n:=pg) rfl rfl (by omega) λg hg4=>⟨⟨some ⟨g,0,none⟩,pg,pg⟩,rfl,λtb htb=>?_⟩;obtain⟨N,hD5⟩:=q.pub hg4 (.cells (madeCells (Value.int .u8 0).cells (pg*1)) 5 (0,0));refine N.push (x:=zeroP pg) (made_bt As (by omega)) htb (by rw[zw,vx];omega) rfl rfl rfl λo6 V6 hP6=>⟨o6,rfl,hJ2 _ _ _ (show 2000-(out.length+(c+1))<2000-(out.length+c)by omega) ⟨o6,_,c+1,rfl,by omega,rfl,G.trans hD5,?_⟩⟩;rw[List.replicate_succ',<-zH];exact hP6
   ·have a:¬(C.n:Int)<=(x.l[j]).1:=a;obtain⟨u,hu1,hu2,hu3⟩:=f.data.get (i:=j) (by rw[y4,hg];rfl);have hsd:x.sd.n=x.l.length:=by rw[f.data.n,wq]
    obtain⟨p,hpp⟩:∃p:Nat,(x.l[j]).1=p:=⟨(x.l[j]).1.toNat,by omega⟩;have hls:=q.ls;obtain⟨u0,hb0,-,-⟩:=hls.get (i:=0) (yu (by rw[zw,vx];omega));refine⟨hu1,hz2,by omega,u,s4.rowp hu2,hb0,q2,by omega,?_⟩;rw[hpp,vM,Nat.mul_one];refine q.store (i:=p) (by rw[zw,vx];omega) (hu3.sub G) λV5 N=>⟨f.nums.succ t,hJ1 L _ _ ⟨D4,G,?_⟩⟩;have A:=setPg_grow (page:=pg) (out:=out) (x:=x.l[j]) (j:=c) (by omega);rw[show(x.l[j]).1.toNat=p by omega]at A;rw[A]at N;rw[wh,hg,vH,O];exact N
  ·have Y:¬(j:Int)<(x.sp.n:Int):=Y;have ej:x.l.take j=x.l:=wH (by omega);rw[ej]at z;refine⟨H.rows.succ M,hJ hil _ _ ⟨D3,F,?_⟩⟩;rw[wh,I];simp only[ux,yP,List.map_cons,List.map_nil];rw[Mt];exact z
 ·have hd:=(H.rows.done hge).2;rw[wH hd]at T;rw[hR,hpk];exact⟨(s1.trans hD).trans T.sub,o,rfl,T.ls⟩
end
section
variable{V:Mem}{s u:Sl}{k:Dk}{x:List Int}
theorem JB{page aft:Int}:PP 10 [.int .i64 page,.int .i64 aft] V (if 8<=page/\page<=256/\-1<=aft/\aft<=1048576 then .tuple #[(By page aft).v Ah,.int .i64 0]else .tuple #[Ca.v Ah,.int .i64 2]):=by
 refine Ni ?_;refine⟨λg=>?_,λg=>⟨λf=>?_,λf=>⟨λt=>?_,λt=>⟨λw=>?_,λw=>?_⟩⟩⟩⟩;·rw[if_neg (by omega)];exact⟨rfl,rfl⟩
 ·rw[if_neg (by omega)];exact⟨rfl,rfl⟩
 ·rw[if_neg (by omega)];exact⟨rfl,rfl⟩
 ·rw[if_neg (by omega)];exact⟨rfl,rfl⟩
 ·rw[if_pos (by omega)];exact⟨rfl,rfl⟩
theorem JC(f:Bt V u x)(hn:x.length<=2147483648):Tri xE 58 #[k.v s,u.v] V λe V'=>∃s':Sl,e=.returned (k.v s')/\Sx.Own V V' 5 1 s' (x.flatMap AS):=by
 refine Ny ?_;refine Tri.mono (Jo f.rows hn) ?_;rintro _ V1 ⟨g,rfl,t⟩;exact⟨g,rfl,g,rfl,t⟩
theorem My(h:Bt V s k.data)(hl:k.data.length<=2147483648):PP 80 [k.v s] V (if AY k=true then .tuple #[.int .i64 ((Bh k).length:Nat),.int .i64 0]else .tuple #[.int .i64 0,.int .i64 1]):=by
 refine AP.mk ?_;refine NO ?_;refine(FA h hl).call ⟨_,rfl,λhv=>?_,λhv=>?_⟩
 ·refine Tri.mono (c121 h hv) ?_;rintro _ V1 ⟨g,o,rfl,f⟩;rw[if_pos hv];refine⟨o,rfl,?_,g⟩;rw[f.n]
 ·rw[if_neg hv];exact⟨rfl,Mem.sub.refl V⟩
def GetR(V:Mem)(k:Dk)(page:Int):Ending->Mem->Prop:=λe V'=>V.sub V'/\
 if AY k=true then(if 0<=page/\page<(Bh k).length then ∃u x,e=.returned (.tuple #[Sl.v u,.int .i64 0])/\(Bh k)[page.toNat]?=some x/\Bt V' u x else e=.returned (.tuple #[Ah.v,.int .i64 2]))else e=.returned (.tuple #[Ah.v,.int .i64 1])
theorem Mz(h:Bt V s k.data)(hl:k.data.length<=2147483648){page:Int}:Tri xE 82 #[k.v s,.int .i64 page] V (GetR V k page):=by
 obtain⟨R,g⟩:∃R,R=GetR V k page:=⟨_,rfl⟩;rw[<-g];refine NQ ?_;refine(FA h hl).call ⟨_,rfl,λhv=>?_,λhv=>?_⟩
 ·refine Tri.mono (c121 h hv) ?_;rintro _ V1 ⟨t,o,rfl,r⟩;have hn:=r.n;refine⟨o,rfl,λa=>?_,λa=>⟨λH=>?_,λH=>?_⟩⟩;·rw[g,GetR,if_pos hv,if_neg (by omega)];exact⟨t,rfl⟩
  ·rw[g,GetR,if_pos hv,if_neg (by omega)];exact⟨t,rfl⟩
  ·obtain⟨y,w⟩:∃y,(Bh k)[page.toNat]?=some y:=⟨_,yu (by omega)⟩;obtain⟨v,z,i,f⟩:=r.get w;have J:=K0 k y (xQ w);obtain⟨G,N,-⟩:=BF hv;refine⟨z,by omega,by omega,v,i,?_⟩;refine Tri.mono (Jo f.rows (by omega)) ?_;rintro _ V2 ⟨q,rfl,c⟩;refine⟨q,rfl,?_⟩;show R _ _;rw[g,GetR,if_pos hv,if_pos (by omega)];exact⟨t.trans c.sub,q,y,rfl,w,Own.bt c f.b⟩
 ·rw[g,GetR,if_neg hv];exact⟨Mem.sub.refl V,rfl⟩
end
section
variable{V:Mem}{s u:Sl}{k:Dk}{x:List Int}
theorem c100(h:Bt V s k.data)(hv:AY k=true)(r:Bt V u x)(hx:x.length<=1073741824):Tri xE 100 #[k.v s,u.v] V λe V'=>V.sub V'/\∃s':Sl,e=.returned (.tuple #[(CJ k x).1.v s',.int .i64 (CJ k x).2])/\Bt V' s' (CJ k x).1.data:=by
 obtain⟨R,q⟩:∃R:Ending->Mem->Prop,R=λe V'=>V.sub V'/\∃s':Sl,e=.returned (.tuple #[(CJ k x).1.v s',.int .i64 (CJ k x).2])/\Bt V' s' (CJ k x).1.data:=⟨_,rfl⟩;rw[<-q];refine x100 ?_;have hn:=h.n;have hc:=h.rows.cap;have C:=r.n;have huc:=r.rows.cap;obtain⟨v1,v2,v3,v4,v5,v6,v7⟩:=BF hv;refine⟨λE=>?_,λE=>?_⟩
 ·refine Tri.mono (JC (k:=k) (s:=s) h (by omega)) ?_;rintro _ V2 ⟨z,rfl,c⟩;refine⟨_,_,_,_,rfl,?_⟩;rw[q];have e:CJ k x=(k,27):=by unfold CJ;simp only;rw[if_pos E]
  dsimp only;rw[e];exact⟨c.sub,z,rfl,Own.bt c h.b⟩
 ·obtain⟨pg,a⟩:∃pg:Nat,k.page=pg:=⟨k.page.toNat,by omega⟩;have H:=Fz pg _ k.data (yV _);have f:=If h (by omega) (page:=pg) (by omega) (by omega) (syn:=k.syn) (aft:=k.aft);rw[<-a]at f;refine Tri.mono f ?_;rintro _ V1 ⟨L,o,rs,rfl,-,-⟩;have J:CJ k x=if k.aft<0∨(x.length:Int)<=k.aft then(⟨k.page,k.data.take (Ao pg k.data).2++x,(Ao pg k.data).2+x.length,if 0<k.aft then k.aft-x.length else k.aft⟩,0)else(⟨k.page,k.data.take (Ao pg k.data).2++x.take k.aft.toNat,(Ao pg k.data).2,0⟩,27):=by
   unfold CJ;simp only;rw[if_neg E,a,vM]
  generalize(Ao pg k.data).2=n at H J⊢;refine⟨o,_,rfl,⟨by omega,by omega,by omega⟩,?_⟩;have K:=(h.sub L).sl (lo:=0) (hi:=n) (by omega) H;refine Tri.mono (JC (k:=k) (s:=s) K (by rw[wX];omega)) ?_;rintro _ V2 ⟨z,rfl,c⟩;have G:Sx.Own V1 V2 5 1 z ((k.data.take n).flatMap AS):=c;have N:An (k.data.take n):=h.b.take n;have Z:(k.data.take n).length=n:=by rw[wX];omega
  have Y:=(r.sub L).sub c.sub;refine⟨_,_,_,_,rfl,?_⟩;have O:(k.aft<0∨(x.length:Int)<=k.aft)->GenK xE (.call {callee:=(.builtin .append),args:=#[(.tmp 38),(.tmp 39)],argTypes:=#[34,34]}) 34 (gv [(38,uL z),(39,uL u)]) V2 λy X=>∃g,y=uL g/\Br (0<k.aft) (IR (k.aft-(u.n:Int))/\R (rT #[uA #[uI k.page,uL g,uI (g.n:Int),uI (k.aft-(u.n:Int))],uI 0]) X) (R (rT #[uA #[uI k.page,uL g,uI (g.n:Int),uI k.aft],uI 0]) X):=λhA=>by
   refine Ek (s:=z) (u:=u) (xs:=k.data.take n) (ys:=x) rfl rfl G Y.rows (by omega) λi X A=>⟨i,rfl,?_⟩;have t:=Own.bt A (N.app r.b);have w:=t.n;rw[zw,Z]at w;have I:=L.trans A.sub;rw[if_pos hA]at J;refine⟨λS=>⟨⟨by omega,by omega⟩,?_⟩,λS=>?_⟩
   ·rw[q];dsimp only;rw[J,if_pos S];refine⟨I,i,?_,t⟩;simp only[Dk.v,C,w];push_cast;rfl
   ·rw[q];dsimp only;rw[J,if_neg S];refine⟨I,i,?_,t⟩;simp only[Dk.v,w];push_cast;rfl
  refine⟨λU=>O (.inl U),λU=>⟨λhb=>O (.inr (by omega)),λhb=>⟨⟨by omega,by omega,by omega⟩,?_⟩⟩⟩;obtain⟨M,F⟩:∃M:Nat,k.aft=M:=⟨k.aft.toNat,by omega⟩;rw[F]at hb⊢;have T:=Y.sl (lo:=0) (hi:=M) (by omega) (by omega);refine Ek (s:=z) (u:=⟨_,_,_⟩) (xs:=k.data.take n) (ys:=(x.drop 0).take (M-0)) rfl rfl G T.rows (by rw[Z,wX,wY];omega) λi X A=>⟨i,rfl,?_⟩;rw[q];dsimp only;rw[J,if_neg (by omega),F,vM];exact⟨L.trans A.sub,i,rfl,Own.bt A (N.app (r.b.take M))⟩
end
theorem g137:IdxP 137 BL Sl.v 1:=by
 intro V l xs g first w H St G f N Z
 refine x137 (a:=l) (b:=.func (.func g) first.toArray w.toArray) ?_;refine Av xs.length St N ?_;intro i b V1 J M c Y;have h:=f i V1 c;refine⟨λt=>?_,λy=>?_⟩
 ·obtain⟨x,hm,O,F,hl,r,hz,z⟩:=h.get t;refine⟨r,hz,t,_,z,g,_,_,rfl,H,Tri.mono (Z i x V1 O c) ?_⟩;rintro e V2 ⟨b,rfl,A,I⟩;exact⟨b,rfl,λq=>.inl ⟨i,rfl,A q⟩,λq=>⟨h.succ t,Y hl _ _ (I (by simpa using q))⟩⟩
 ·have e:i=xs.length:=by have:=(h.done y).2;omega
  simp_all
theorem Om:ConP 95 BL Sl.v 1:=conG g137 NS
theorem On:ConC 95 BL Sl.v 1:=conC Om
def FB(l:List Int):List Bool:=(List.range 1000).map λn:Nat=>decide ((n:Int)∈l)
theorem JD(l:List Int):(FB l).length=1000:=by rw[FB,wq,vl]
theorem seenL_nil:FB []=yJ 1000 false:=by
 have:(λn:Nat=>decide ((n:Int)∈([]:List Int)))=λ_=>false:=funext λn=>decide_eq_false (by simp only[List.not_mem_nil,not_false_eq_true]);rw[FB,this];exact List.map_const.trans (by rw[vl])
theorem La(l:List Int){p:Nat}(g:p<1000):(FB l)[p]?=some (decide ((p:Int)∈l)):=by
 rw[FB,y4,List.getElem?_range g];rfl
theorem seenL_set{l:List Int}{p:Nat}(f:p<1000):(FB l).set p true=FB (l++[(p:Int)]):=by
 refine zx λi=>?_;by_cases g:i<1000
 ·rw[La _ g];by_cases e:i=p
  ·subst e;rw[List.getElem?_set_self (by rw[JD];exact g)];simp
  ·rw[List.getElem?_set_ne (Ne.symm e),La _ g];have:¬(i:Int)=p:=by omega
   simp[this]
 ·rw[uy (by rw[vp,JD];omega),uy (by rw[JD];omega)]
section
variable{V:Mem}{s sp sd:Sl}{k:Dk}{l:List (Int×List Int)}
theorem Oo{u:Sl}{p:Nat}{t:Nat}(h:V p=some (.cells #[.int .i64 k.page,s.v,.int .i64 k.syn,.int .i64 k.aft] t (0,0))):PP 96 [u.v,pv p] V (.bool (!(decide ((u.n:Int)=k.page)))):=by
 refine NT ?_;refine⟨by simp,k.page,?_,rfl,rfl⟩;exact At h 0 1 (by simp)
theorem Oq{n:Int}:PP 98 [.int .i64 n] V (.bool (decide (n<0∨1000<=n))):=by
 refine NV ?_;refine⟨λh=>?_,λh=>?_⟩;·rw[decide_eq_true (.inl h)];exact⟨rfl,rfl⟩
 ·have:(n<0∨1000<=n)↔1000<=n:=⟨λg=>by omega,λg=>.inr g⟩;rw[decide_eq_decide.2 this];exact⟨rfl,rfl⟩
theorem Ot(h:Bt V s k.data)(hl:k.data.length<=2147483648)(w:Pg V sp sd l)(hr:∀x∈l,K.inR .i64 x.1):Tri xE 69 #[k.v s,sp.v,sd.v] V λe V'=>V.sub V'/\∃s':Sl,e=.returned (.tuple #[(CC k l).1.v s',.int .i64 (CC k l).2])/\Bt V' s' (CC k l).1.data:=by
  obtain⟨R,hR⟩:∃R:Ending->Mem->Prop,R=λe V'=>V.sub V'/\∃s':Sl,e=.returned (.tuple #[(CC k l).1.v s',.int .i64 (CC k l).2])/\Bt V' s' (CC k l).1.data:=⟨_,rfl⟩;rw[<-hR];have f:∀{er:Int}{V':Mem},CC k l=(Ca,er)->V.sub V'->R (.returned (.tuple #[Ca.v Ah,.int .i64 er])) V':=λe hs=>by
    rw[hR];dsimp only;rw[e];exact⟨hs,Ah,rfl,Bt.nil⟩
  refine NF ?_;have hspn:sp.n=l.length:=by rw[w.nums.n_eq,wq]
  have hsdn:sd.n=l.length:=by rw[w.data.n,wq]
  refine(FA h hl).call ⟨_,rfl,λhv=>?_,λhv=>f (by unfold CC;rw[if_pos (by simpa using hv)]) (Mem.sub.refl V)⟩;refine⟨λG=>?_,λG=>absurd (show(sp.n:Int)=(sd.n:Int)by rw[hspn,hsdn]) G⟩;intro C hpb;have hp0:Aa (some (⟨C,0,none⟩:Addr)) 0=some ⟨C,0,none⟩:=by simp[Aa,Addr.add]
  simp only[hp0];generalize hV2:V.set C (Obj.cells _ _ _)=V2;have s2:V.sub V2:=hV2▸Mem.sub_new hpb _;have N:V2 C=some (.cells #[.int .i64 k.page,s.v,.int .i64 k.syn,.int .i64 k.aft] 36 (0,0)):=by rw[<-hV2];exact Mem.set_same _ _ _
  obtain⟨ss,hs1,hs2,hs3⟩:=(w.data.sub s2).at_;have hcf:PP 95 [sd.v,.func (.func 96) #[] #[pv C]] V2 (.bool (ss.any λu=>!(decide ((u.n:Int)=k.page)))):=On (first:=[]) (caps:=[pv C]) hs1 Tryz.call96 (λu=>!(decide ((u.n:Int)=k.page))) λu _=>Oo N;refine hcf.call ⟨_,rfl,λz=>f ?_ s2,λz=>?_⟩
  · unfold CC;rw[if_neg (by rw[hv];simp),if_pos];obtain⟨u,hu,I⟩:=uw.1 z;obtain⟨i,hi⟩:=wb.1 hu;have Z:=(yv.1 hi).1;rw[wq]at hs2;have r:=yu (l:=l) (i:=i) (by omega);have hb:=hs3 i u (l[i]'(by omega)).2 hi (by rw[y4,r];rfl);refine⟨l[i]'(by omega),yo _,?_⟩;rw[<-hb.n];simpa using I
  have Y:¬∃x∈l,(x.2.length:Int)≠k.page:=by
    rintro⟨x,r,E⟩;refine z (uw.2 ?_);obtain⟨i,hi⟩:=wb.1 r;have Z:=(yv.1 hi).1;rw[wq]at hs2;obtain⟨u,hu⟩:∃u,ss[i]?=some u:=⟨_,yu (by omega)⟩;have hb:=hs3 i u x.2 hu (by rw[y4,hi];rfl);refine⟨u,xQ hu,?_⟩;rw[hb.n];simpa using E
  refine⟨λO=>f ?_ s2,λO=>?_⟩
  · unfold CC;rw[if_neg (by rw[hv];simp),if_neg Y,if_pos (by omega)]
  refine(Oj (l:=sp) (first:=[]) (caps:=[]) (w.nums.sub s2) Tryz.call98 (λn=>decide (n<0∨1000<=n)) λn _=>Oq).call ⟨_,rfl,λz=>f ?_ s2,λhno=>?_⟩
  · unfold CC;rw[if_neg (by rw[hv];simp),if_neg Y,if_neg (by omega),if_pos];obtain⟨n,hn,I⟩:=uw.1 z;obtain⟨x,r,rfl⟩:=wc.1 hn;exact⟨x,r,of_decide_eq_true I⟩
  have hrg:∀x∈l,0<=x.1/\x.1<1000:=λx r=>by
    by_cases hx1:x.1<0∨1000<=x.1;· exact absurd (uw.2 ⟨x.1,vo r,decide_eq_true hx1⟩) hno
    · omega
  have F:¬∃x∈l,x.1<0∨1000<=x.1:=by
    rintro⟨x,r,I⟩;have:=hrg x r;omega
  refine mk170 (n:=1000) rfl rfl (by decide) λg hg=>⟨⟨some ⟨g,0,none⟩,1000,1000⟩,rfl,?_⟩;refine Av (mk:=.int .i64) (b0:=0) l.length (λi V3=>Sx.Own V2 V3 4 1 ⟨some ⟨g,0,none⟩,1000,1000⟩ ((FB ((l.take i).map (·.1))).flatMap F9)/\((l.take i).map (·.1)).Nodup) ⟨?_,by simp⟩ ?_
  · have:=own_madeB (V:=V2) hg (n:=1000) (by decide);rw[<-seenL_nil]at this;simpa using this
  rintro i b V3 J hi ⟨o3,A⟩ hJ;have s3:=s2.trans o3.sub;have hro:=o3.rows (λ_=>rfl) (by decide);refine⟨λS=>?_,λhge=>?_⟩
  · have Z:i<l.length:=by omega
    have r:=yu Z;have hm:l[i]∈l:=yo Z;obtain⟨y,-,hy,-,-,hp,hz,hrow⟩:=(w.nums.sub s3).get S;rw[y4,r]at hy;simp only[zJ,zF]at hy;subst hy;obtain⟨q1,q2⟩:=hrg _ hm;obtain⟨p,hpp⟩:∃p:Nat,(l[i]).1=p:=⟨(l[i]).1.toNat,by omega⟩;have t:p<1000:=by omega
    have hsg:=La ((l.take i).map (·.1)) t;obtain⟨b1,b2,b3,b4⟩:=bool_at hro hsg;have et:(l.take (i+1)).map (·.1)=(l.take i).map (·.1)++[(p:Int)]:=by
      rw[wh,r,yP];simp[hpp]
    refine⟨hp,hz,S,_,hrow,?_⟩;rw[hpp];refine⟨b1,b2,b3,_,b4,λT=>f ?_ s3,λT=>⟨b1,b2,b3,?_⟩⟩
    · unfold CC;rw[if_neg (by rw[hv];simp),if_neg Y,if_neg (by omega),if_neg F,if_pos];intro A;have I:((l.take (i+1)).map (·.1)).Nodup:=by
        rw[List.map_take];exact A.sublist (List.take_sublist _ _)
      rw[et]at I;exact(uJ.1 I).2.2 _ (of_decide_eq_true T) _ zb rfl
    · rw[vM,Nat.mul_one];refine Own.store o3 (i:=p) (by rw[flat_lenB,JD];exact t) λV4 o4 _=>⟨w.nums.succ S,hJ Z _ _ ?_⟩;rw[flat_setB,seenL_set t]at o4;rw[et];refine⟨o4,uJ.2 ⟨A,by simp,λa ha c hc=>?_⟩⟩;rw[zO.1 hc];rintro rfl;exact T (decide_eq_true ha)
  · have ei:l.take i=l:=wH (by omega);rw[ei]at A;obtain⟨v1,v2,v3,v4,v5,v6,v7⟩:=BF hv;have hpl:∀x∈l,x.2.length<=256:=fun x r=>by
      by_cases E:(x.2.length:Int)=k.page;· omega
      · exact absurd ⟨x,r,E⟩ Y
    have U:CC k l=if k.aft≠0/\1048576<(Ao k.page.toNat k.data).2+(AF l).length then(Ca,4)else CJ k (AF l):=by
      unfold CC;rw[if_neg (by rw[hv];simp),if_neg Y,if_neg (by omega),if_neg F,if_neg (not_not_intro A)]
    refine Tri.mono (Og (w.sub s3) hr (by omega) hpl) ?_;rintro _ V4 ⟨s4,rfl,o4⟩;have G:(AF l).length<=1000000:=by
      have:=pgs_len hpl;rw[AF,zw,recB,zw,DV,DV];omega
    have hbb:An (AF l):=((put4_b _).app (pgs_b w)).app (put4_b _);have hb4:Bt V4 s4 (AF l):=Own.bt o4 hbb;have hn4:=hb4.n;have M:=s3.trans o4.sub;have q:=(o3.sub.trans o4.sub) _ _ N;refine⟨s4,rfl,?_⟩;obtain⟨pg,L⟩:∃pg:Nat,k.page=pg:=⟨k.page.toNat,by omega⟩;refine⟨k.page,s,k.syn,k.aft,At q 0 4 (by simp),?_⟩;have X:=If (h.sub M) (by omega) (page:=pg) (by omega) (by omega) (syn:=k.syn) (aft:=k.aft);rw[<- L]at X;refine Tri.mono X ?_;rintro _ V5 ⟨s5,o,rs,rfl,-,-⟩;have H:=s5 _ _ q;have hwr:CC k l=CJ k (AF l)->∃v21 v22 v23 v24,V5.rowp (sa C) ((0:Int).toNat*1) 4=some [uI v21,uL v22,uI v23,uI v24] /\
       TT 100 #[uA #[uI v21,uL v22,uI v23,uI v24],uL s4] V5 λe V9=>∃v25 v26 v27 v28 v29,e=rT #[uA #[uI v25,uL v26,uI v27,uI v28],uI v29]/\
       R (rT #[uA #[uI v25,uL v26,uI v27,uI v28],uI v29]) V9:=λe=>by
      refine⟨k.page,s,k.syn,k.aft,At H 0 4 (by simp),?_⟩;refine Tri.mono (c100 ((h.sub M).sub s5) hv (hb4.sub s5) (by omega)) ?_;rintro _ V6 ⟨s6,s',rfl,hb6⟩;refine⟨_,_,_,_,_,rfl,?_⟩;rw[hR];dsimp only;rw[e];exact⟨(M.trans s5).trans s6,s',rfl,hb6⟩
    have hrle:=Fz k.page.toNat _ k.data (yV _);have er:(Ao pg k.data).2=(Ao k.page.toNat k.data).2:=by rw[L,vM]
    refine⟨_,_,rfl,by simp,k.aft,At H 3 1 (by simp),λh0=>hwr ?_,λh0=>⟨⟨by omega,by omega⟩,λO=>f ?_ (M.trans s5),λO=>hwr ?_⟩⟩;· rw[U,if_neg (by rintro⟨I,-⟩;exact I h0)]
    · rw[U,if_pos ⟨h0,by omega⟩]
    · rw[U,if_neg (by rintro⟨-,I⟩;omega)]
end
end Go.Proofs
namespace Go.Proofs
open Go Go.Sx
section
variable{d:Ds}{m:Mm}
theorem right_in{g:KB}{v:Int}(hm:m.nodes.length<=4096)(h:Ce d m g v=true):CM v:=by
 unfold Ce at h;unfold CM;split at h;·have:=of_decide_eq_true h;omega
 split at h;·have:=of_decide_eq_true h;omega
 ·have:=of_decide_eq_true h;omega
theorem Lb{l:List Fld}{vs:List Int}(hm:m.nodes.length<=4096)(h:Bb d m l vs=true):vs.length=l.length/\∀x∈vs,CM x:=by
 unfold Bb at h;simp only[zC,decide_eq_true_eq]at h;obtain⟨g,f⟩:=h;refine⟨g.symm,λx t=>?_⟩;obtain⟨j,w⟩:=wb.1 t;exact right_in hm (Fu.1 f j x w)
theorem ET(h:AB d m=true):Hp d m.plain:=by
 unfold AB at h;simp only[zC,decide_eq_true_eq,List.all_eq_true]at h;obtain⟨⟨⟨⟨-,g⟩,y⟩,i⟩,t⟩:=h;have w:=Lb g i;refine⟨w.1,w.2,λn hn=>?_,λn hn=>?_,by simpa [Mm.plain]using g⟩
 ·obtain⟨x,f,rfl⟩:=wc.1 hn;have z:=of_decide_eq_true (y x f);exact⟨z.1,z.2,(Lb g (t x f)).1⟩
 ·obtain⟨x,f,rfl⟩:=wc.1 hn;exact(Lb g (t x f)).2
theorem Ii(G:BR d m):Hp d (Bx d m):=by
 have h:=ET (Ie G Ju).mem;rwa [K3]at h
end
def Bw(d:Ds):Nat->List Int->Option (List (Int×List Int)×List Int)
 |0,b=>some ([],b)
 |_+1,[]=>none
 |n+1,t::r=>
  if(d.types.length:Int)<=t∨r.length<6*(Bg d t).length then none
  else match Bw d n (r.drop (6*(Bg d t).length))with
   |none=>none
   |some x=>some ((t,Bu (Bg d t).length r)::x.1,x.2)
def NdsOk(d:Ds)(l:List (Int×List Int)):Prop:=∀n∈l,(0<=n.1/\n.1<(d.types.length:Int)/\n.2.length=(Bg d n.1).length)/\∀x∈n.2,CM x
theorem MA{d:Ds}:∀(l:List (Int×List Int))(r:List Int),NdsOk d l->An r->(∀n∈l,n.1<256)->Bw d l.length (l.flatMap B1++r)=some (l,r)
 |[],r,_,_,_=>rfl
 |n::l,r,h,hr,t=>by
  obtain⟨⟨q,c,w⟩,z⟩:=h n zb;have i:An (l.flatMap B1++r):=λx g=>by
   rcases wZ.1 g with g|g
   ·obtain⟨y,f,g⟩:=uv.1 g;rcases yD.1 g with rfl|g;·exact⟨(h y (za _ f)).1.1,t y (za _ f)⟩
    ·exact ints_b _ _ g
   ·exact hr x g
  have hl:(n.2.flatMap AA).length=6*(Bg d n.1).length:=by rw[DG,w]
  rw[zy,yc,B1,zH,zI,Bw];rw[if_neg (by rw[zw,hl];omega),wx hl,MA l r (λy f=>h y (za _ f)) hr λy f=>t y (za _ f)];simp only;rw[<-w,rdN_of z _ i]
theorem MB{d:Ds}:∀(n:Nat)(b:List Int)(l:List (Int×List Int))(r:List Int),An b->Bw d n b=some (l,r)->l.length=n/\b=l.flatMap B1++r/\NdsOk d l
 |0,b,l,r,_,h=>by
  simp only[Bw,zF,zS]at h;obtain⟨rfl,rfl⟩:=h;exact⟨rfl,rfl,λ_ h=>by cases h⟩
 |n+1,[],l,r,_,h=>by simp[Bw]at h
 |n+1,t::b,l,r,q,h=>by
  rw[Bw]at h;split at h;·cases h
  rename_i N;have g:An b:=λx c=>q x (za _ c);cases f:Bw d n (b.drop (6*(Bg d t).length))with
  |none=>rw[f]at h;cases h
  |some x=>
   rw[f]at h;simp only[zF,zS]at h;obtain⟨rfl,rfl⟩:=h;obtain⟨a,v,H⟩:=MB n _ x.1 x.2 (g.drop _) f;have J:=q t zb;have hr:=Jj g (Bg d t).length (by omega);refine⟨by rw[zy,a],?_,λy w=>?_⟩
   ·rw[yc,B1];simp only[zI,zH];rw[hr,<-v,vz]
   ·rcases yD.1 w with rfl|w
    ·refine⟨⟨J.1,by simp only;omega,H6 _ _⟩,λz hz=>?_⟩;unfold Bu at hz;obtain⟨i,G,rfl⟩:=wc.1 hz;have:=yY.1 G;exact Ho (by rw[wX,wY];omega) (F6 g _ _)
    ·exact H y w
end Go.Proofs
namespace Go.Proofs
open Go Go.Sx
def Ai(d:Ds)(m:Mm):List Int:=BK (Bx d m)
def AL(d:Ds):Prop:=BX d=true/\Dc d=none
instance (d:Ds):Decidable (AL d):=by unfold AL;infer_instance
def Fc:Mm:=⟨Ah,[],Ah,[]⟩
inductive DecQ (d:Ds)(b:List Int):Mm->Int->Prop where
 |arg {m:Mm} (h:¬AL d) (hz:m.plain=([],[])):DecQ d b m 1
 |short {m:Mm} (h:AL d) (hl:b.length<6*(d.globals.length+1)) (hz:m.plain=([],[])):DecQ d b m 8
 |ok {m:Mm} (h:AL d) (hl:¬b.length<6*(d.globals.length+1)) (hv:AB d m=true) (hc:Bx d m=m.plain) (hr:BK m.plain=b):DecQ d b m 0
 |form {m:Mm} (h:AL d) (hl:¬b.length<6*(d.globals.length+1)) (hz:m.plain=([],[])) (hn:∀x:Mm,AB d x=true->Bx d x=x.plain->BK x.plain≠b):DecQ d b m 7
theorem raw_len(g:Gm):6*(g.1.length+1)<=(BK g).length:=by
 unfold BK;rw[zw,zw,DG,De];omega
theorem raw_b{d:Ds}{g:Gm}(h:Hp d g)(t:d.types.length<=256):An (BK g):=by
 unfold BK;refine An.app (An.app (ints_b _) (cod6_b _)) λx f=>?_;obtain⟨n,hn,f⟩:=uv.1 f;rcases yD.1 f with rfl|f;·have:=h.ty n hn;omega
 ·exact ints_b _ _ f
theorem raw_parse{d:Ds}{g:Gm}(h:Hp d g)(w:d.types.length<=256):Bu d.globals.length (BK g)=g.1/\Cu (((BK g).drop (6*d.globals.length)).take 6)=g.2.length/\Bw d g.2.length ((BK g).drop (6*d.globals.length+6))=some (g.2,[]):=by
 have hl:=h.len;have z:(g.1.flatMap AA).length=6*d.globals.length:=by rw[DG,h.gl]
 have y:=raw_b h w;have f:An (g.2.flatMap B1):=λx i=>y x (by unfold BK;exact uz _ i);have e:BK g=g.1.flatMap AA++(AA g.2.length++g.2.flatMap B1):=by rw[BK,zH]
 have t:(BK g).drop (6*d.globals.length)=AA g.2.length++g.2.flatMap B1:=by rw[e,wx z]
 refine⟨?_,?_,?_⟩
 ·rw[e,<-h.gl];exact rdN_of h.gi _ (An.app (cod6_b _) f)
 ·rw[t,List.take_left' (De _)];exact rd_cod ⟨by omega,by omega⟩
 ·rw[<-vY,t,wx (De _)];have:=MA (d:=d) g.2 [] (λn hn=>⟨h.ty n hn,h.fi n hn⟩) (λ_ h=>by cases h) λn hn=>by have:=h.ty n hn;omega
  rwa [xp]at this
theorem parse_raw{d:Ds}{b:List Int}{l:List (Int×List Int)}(g:An b)(f:¬b.length<6*(d.globals.length+1)){n:Nat}(hn:Cu ((b.drop (6*d.globals.length)).take 6)=n)(w:Bw d n (b.drop (6*d.globals.length+6))=some (l,[])):BK (Bu d.globals.length b,l)=b:=by
 obtain⟨z,t,y⟩:=MB n _ l [] (g.drop _) w;rw[xp]at t;unfold BK;simp only;rw[Jj g _ (by omega),<-t,z,<-hn,int_rd (by rw[wX,wY];omega) (F6 g _ _),<-vY,zH,vz,vz]
end Go.Proofs
namespace Go.Proofs
open Go Go.Sx
structure DI (k:Dk)(n:Nat):Prop where
 syn:k.syn=(Ao k.page.toNat k.data).2
 len:k.data.length=(Ao k.page.toNat k.data).2
 small:(Ao k.page.toNat k.data).2<=25000*n
structure Torn (k:Dk)(n:Nat):Prop where
 syn:k.syn=(Ao k.page.toNat k.data).2
 small:(Ao k.page.toNat k.data).2<=25000*n
 tail:∃P j,PgsOk k.page.toNat P/\j<(AF P).length/\k.data.drop (Ao k.page.toNat k.data).2=(AF P).take j
section
variable{k:Dk}{codes l:List (List Int)}{n:Nat}
theorem AX.adds(h:AX k codes)(hc:DI k n)(hn:n<40)(hl:l≠[])(c:((codes++l).map uQ).sum<=12000)(a:(codes++l).length<=30):
  (∃k',DH k l=(k',(codes.length:Int),0)/\AX k' (codes++l)/\DI k' (n+1)/\k'.page=k.page/\(k.aft=-1->k'.aft=-1)/\k'.aft<=k.aft)∨
  (0<=k.aft/\∃k',DH k l=(k',0,27)/\AX k' codes/\Torn k' n/\k'.page=k.page):=by
 obtain⟨t,-,X⟩:=svPg_ok h.n32 c a;obtain⟨C,E,K,S,T,U,v7⟩:=BF h.ok;have v:l.length<=30:=by rw[zw]at a;omega
 have A:(l.map uQ).sum<=12000:=by rw[yP,uR]at c;omega
 have G:k.page.toNat*l.length<=256*30:=Nat.mul_le_mul (by omega) v;have I:(AF (BM k.page.toNat codes l)).length<=25000:=by omega
 have i:=hc.small;have f:(Ao k.page.toNat k.data).2+(AF (BM k.page.toNat codes l)).length<=1048576:=by omega
 have M:=Fz k.page.toNat _ k.data (yV _);have F:8<=(AF (BM k.page.toNat codes l)).length:=by rw[Js t.page];omega
 have H:=commit_eq h.ok t f;have g:=h.save hl c a;rw[H]at g;by_cases L:k.aft<0∨(0<k.aft/\((AF (BM k.page.toNat codes l)).length:Int)<=k.aft)
 ·obtain⟨k',z,J,y,w,N,R,Z⟩:=write_ok h.ok t f L;rw[z]at g;refine .inl ⟨k',by rw[g,if_pos rfl],h.next c a J y (by rw[w]),⟨N,R,by rw[w];simp only;omega⟩,y,λhm=>by rw[Z,hm,if_neg (by decide)],by rw[Z];split<;>omega⟩
 ·have r:0<=k.aft/\k.aft<(AF (BM k.page.toNat codes l)).length:=by omega
  refine .inr ⟨r.1,?_⟩;by_cases Y:k.aft=0
  ·have z:CJ k (AF (BM k.page.toNat codes l))=(k,27):=by unfold CJ;simp only;rw[if_pos Y]
   rw[z]at g;refine⟨k,by rw[g,if_neg (by simp)],h,⟨hc.syn,i,BM k.page.toNat codes l,0,t,by omega,?_⟩,rfl⟩;rw[List.drop_eq_nil_of_le (by rw[hc.len];omega)];simp
  ·have O:k.aft.toNat<(AF (BM k.page.toNat codes l)).length:=by omega
   have ht:=K1 (k:=k) t.len t.page O;obtain⟨k',z,J,y,w,N⟩:=write_torn h.ok t f r;have q:k'=⟨k.page,k.data.take (Ao k.page.toNat k.data).2++(AF (BM k.page.toNat codes l)).take k.aft.toNat,(Ao k.page.toNat k.data).2,0⟩:=by
    have:=z;unfold CJ at this;simp only at this;rw[if_neg Y,if_neg (by omega)]at this;exact(congrArg Prod.fst this).symm
   rw[z]at g;refine⟨k',by rw[g,if_neg (by simp)],h.same J y (by rw[w]),⟨by rw[w,q],by rw[w];exact i,BM k.page.toNat codes l,k.aft.toNat,by rw[y];exact t,O,?_⟩,y⟩;rw[w,q];simp only;rw[wx (by rw[wX];omega)]
end
end Go.Proofs
namespace Go.Proofs
open Go Go.Sx
section
variable{k:Dk}{codes:List (List Int)}
theorem AX.code(h:AX k codes){i:Nat}{b:List Int}(hi:codes[i]?=some b):(AZ k.page.toNat codes).all[i]?=some (CZ k.page.toNat (Aw k.page.toNat codes) b)/\∀(j:Nat)(p:Int),(CZ k.page.toNat (Aw k.page.toNat codes) b).2[j]?=some p->0<=p/\∃c,(AK k.page.toNat b)[j]?=some c/\Cg k (AZ k.page.toNat codes) p=some c:=by
 refine⟨by simp[AZ,hi],λj p f=>?_⟩;simp only[CZ,y4,Option.map_eq_some_iff]at f;obtain⟨c,hc,rfl⟩:=f;have hm:=Jv (n:=k.page.toNat) (xQ hi) (xQ hc);have g:=ixC_lt hm;have t:=h.chunk (ixC_get hm);rw[Int.toNat_of_nonneg g.1]at t;exact⟨g.1,c,hc,t⟩
end
end Go.Proofs
namespace Go.Proofs
open Go Go.Sx
attribute [local irreducible] Go.Sx.Tri
theorem loopD{V:Mem}{β:Type}{mk:β->Value}{B:β->Int->Mem->(KZ)->Prop}{b0:β}{c0:Int}(inj:∀x y,mk x=mk y->x=y)(len:Nat)(hc:c0=(len:Int)-1)(St:Nat->β->Mem->Prop)(z:St 0 b0 V)
  (step:∀(i:Nat)(b:β) V1 J,i<=len->St i b V1->(i<len->∀g V2,St (i+1) g V2->J [mk g,.int .i64 ((len:Int)-1-i-1)] V2)->B b ((len:Int)-1-i) V1 J):
  ∃(I:Nat->KZ)(r:Nat),I r [mk b0,.int .i64 c0] V/\∀n V1,∀b:β,∀v:Int,I n [mk b,.int .i64 v] V1->∀J:KZ,(∀m ys f,m<n->I m ys f->J ys f)->B b v V1 J:=by
 refine⟨LI len λi xs V=>∃b,xs=[mk b,.int .i64 ((len:Int)-1-i)]/\St i b V,len,LI.start ⟨b0,by simp[hc],z⟩,?_⟩;rintro n V1 b v ⟨i,rfl,q,g,w,c⟩ J a;simp only[yE,Value.int.injEq,true_and,and_true]at w;obtain⟨H,rfl⟩:=w;cases inj _ _ H;exact step i b V1 J q c λt g V2 G=>LI.next a t ⟨g,by rw[show(len:Int)-1-((i+1:Nat):Int)=(len:Int)-1-i-1 by omega],G⟩
theorem GenK.shrN{P:Program}{V:Mem}{t u:TypeId}{ty:Nat}{vals:Operand->Value}{x y:Operand}{n c:Int}(g:vals x=.int .i64 n)(f:vals y=.int .i64 c)(hc:¬c<0){q:Value->Mem->Prop}(z:q (.int .i64 (n.fdiv (2^(min c.toNat 64)))) V):GenK P (.binOp .shr t x y u) ty vals V q:=by
 intro w hw;refine⟨_,w,V,?_,Aq.refl hw,z⟩;unfold execOp;simp[g,f,binOp,Op.shift,hc,eqGuard,zR]
theorem cod6_get(n:Int){i:Nat}(hi:i<6):(AA n)[i]?=some ((n+140737488355328)/2^(8*(5-i)) % 256):=by
 match i,hi with
 |0,_|1,_|2,_|3,_|4,_|5,_=>simp[AA]
section
variable{V V0:Mem}{d:Ds}{m:Mm}{s:Sl}{b:List Int}
theorem Ij[Tab V](g:Ds.Ok V d):PP 44 [d.v] V (.bool (decide (AL d))):=by
 refine Np ?_;refine(N5 scopeC newC g).call ?_;by_cases hv:BX d=true
 ·rw[if_pos hv];refine⟨_,_,_,rfl,?_⟩;have e:decide ((fltR (Dc d)).2.2=0)=decide (AL d):=decide_eq_decide.2 ⟨λh=>⟨hv,chk_none h⟩,λh=>by rw[h.2];rfl⟩;rw[e];exact⟨rfl,rfl⟩
 ·rw[if_neg hv];refine⟨_,_,_,rfl,?_⟩;rw[decide_eq_false (λh:AL d=>hv h.1)];exact⟨rfl,rfl⟩
theorem Lc(o:Sx.Own V0 V 5 1 s (b.flatMap AS))(hl:b.length<=2000000){n:Int}(hn:K.inR .i64 (n+140737488355328)):Tri xE 77 #[s.v,.int .i64 n] V λe V'=>∃s':Sl,e=.returned s'.v/\Sx.Own V0 V' 5 1 s' ((b++AA n).flatMap AS):=by
 refine NL ?_;refine⟨hn,?_⟩;refine loopD (mk:=λs:Sl=>.slice s.p s.n s.c) AG 6 (by rfl) (λi u V1=>Sx.Own V0 V1 5 1 u ((b++(AA n).take i).flatMap AS)) (by simpa using o) ?_;intro i u V1 J H t z;refine⟨λy=>?_,λr=>?_⟩
 ·have g:i<6:=by omega
  have q:=cod6_get n g;refine⟨⟨by omega,by omega⟩,?_⟩;refine GenK.shrN (n:=n+140737488355328) (c:=8*(((6:Nat):Int)-1-i)) rfl rfl (by omega) ⟨_,rfl,λG f=>?_⟩;have e:xF .u8 ((n+140737488355328).fdiv (2^(min (8*(((6:Nat):Int)-1-i)).toNat 64)))=(n+140737488355328)/2^(8*(5-i)) % 256:=by
   rw[GI,show(min (8*(((6:Nat):Int)-1-i)).toNat 64)=8*(5-i)by omega,Int.fdiv_eq_ediv_of_nonneg _ (Int.le_of_lt (Int.pow_pos (by decide)))]
  refine oneB Ek (x:=xF .u8 _) t f (by rw[zw,wX,De];omega) rfl rfl (λ_=>rfl) λa N w=>⟨a,rfl,⟨by omega,by omega⟩,z g _ _ ?_⟩;rw[e]at w;rw[wh,q,<-zH];exact w
 ·obtain rfl:i=6:=by omega
  exact⟨u,rfl,t⟩
theorem GK(h:BX d=true):d.types.length<=12/\d.globals.length<=8/\∀t,(Bg d t).length<=12:=by
 have g:=lens12 h;unfold BX at h;simp only[zC,decide_eq_true_eq]at h;refine⟨by omega,g.1,λt=>?_⟩;grind[Bg]
theorem JE:∀(l:List (Int×List Int)),(∀n∈l,n.2.length<=12)->(l.flatMap B1).length<=73*l.length
 |[],_=>by simp
 |n::l,h=>by
  have f:=JE l λx g=>h x (za _ g);have t:=h n zb;rw[yc,zw,B1,zy,DG,zy];omega
theorem code_b(G:BR d m):An (Ai d m):=raw_b (Ii G) (by have:=(GK G.valid).1;omega)
theorem Gb(G:BR d m):(Ai d m).length<=300000:=by
 have h:=Ii G;obtain⟨f,t,g⟩:=GK G.valid;have:=JE (Bx d m).2 λn hn=>by rw[(h.ty n hn).2.2];exact g _
 have:=h.gl;have:=h.len;unfold Ai BK;rw[zw,zw,DG,De];omega
theorem JF[Tab V](G:BR d m)(hd:Ds.Ok V d)(hm:Mm.Ok V m):Tri xE 46 #[d.v,m.v] V λe V'=>V.sub V'/\∃s:Sl,e=.returned s.v/\Bt V' s (Ai d m):=by
 refine Nr ?_;refine Tri.mono (Of hd hm) ?_;rintro _ V1 ⟨s1,⟨hv,-⟩|⟨-,c,rfl,hc,I⟩⟩;·rw[G.mem]at hv;cases hv
 have Gc:=Ie G I;have K:=H9 G.mem I;have Z:=ET Gc.mem;obtain⟨b1,b2,b3⟩:=GK G.valid;have hgl:c.globals.length<=8:=by have:c.globals.length=d.globals.length:=Z.gl;omega
 have hnl:c.nodes.length<=4096:=by have:=Z.len;simpa [Mm.plain]using this
 have t:∀n∈c.nodes,0<=n.ty/\n.ty<12/\n.f.length<=12/\∀x∈n.f,CM x:=λn hn=>by
  have Y:(n.ty,n.f)∈c.plain.2:=wc.2 ⟨n,hn,rfl⟩;obtain⟨t1,t2,t3⟩:=Z.ty _ Y;have t3:n.f.length=(Bg d n.ty).length:=t3;have:=b3 n.ty;exact⟨t1,by have t2:n.ty<(d.types.length:Int):=t2;omega,by omega,Z.fi _ Y⟩
 refine⟨_,_,_,rfl,?_⟩;have hgn:=hc.globals.n_eq;have S:=hc.nodes.n_eq;refine Cz (mk:=λs:Sl=>.slice s.p s.n s.c) (b0:=Ah) AG c.globals.length (λi u V2=>Sx.Own V1 V2 5 1 u (((c.globals.take i).flatMap AA).flatMap AS)) (Own.nil (Mem.sub.refl _) _ _) ?_;intro i u V2 J hi C hJ;refine⟨λg=>?_,λT=>?_⟩
 ·obtain⟨x,q,O,-,U,hp,hz,w⟩:=(hc.globals.sub C.sub).get g;have z:CM x:=Z.gi x q;refine⟨hp,hz,g,x,w,Tri.mono (Lc C (by rw[DG,wX];omega) (n:=x) ⟨by have:=z.1;omega,by have:=z.2;omega⟩) ?_⟩;rintro _ V3 ⟨s3,rfl,M⟩;refine⟨s3,rfl,hc.globals.succ g,hJ U _ _ ?_⟩;rw[wh,O,List.flatMap_append];simpa using M
 ·have hd2:=(hc.globals.done T).2;rw[wH (by omega)]at C;have hal:(c.globals.flatMap AA).length<=48:=by rw[DG];omega
  refine Tri.mono (Lc C (by omega) (n:=(c.ns.n:Int)) ⟨by omega,by omega⟩) ?_;rintro _ V3 ⟨s3,rfl,M⟩;rw[S]at M;obtain⟨A,hA⟩:∃A,A=c.globals.flatMap AA++AA (c.nodes.length:Nat):=⟨_,rfl⟩;rw[<-hA]at M;have hAl:A.length<=54:=by rw[hA,zw,De];omega
  refine⟨s3,rfl,?_⟩;have F:∀i,(((c.nodes.take i).map λn=>(n.ty,n.f)).flatMap B1).length<=299008:=λi=>by
   have:=JE ((c.nodes.take i).map λn=>(n.ty,n.f)) λx O=>by
    obtain⟨n,hn,rfl⟩:=wc.1 O;exact(t n (wW hn)).2.2.1
   rw[wq,wX]at this;omega
  refine Cz (mk:=λs:Sl=>.slice s.p s.n s.c) AG c.nodes.length (λi u V4=>Sx.Own V1 V4 5 1 u ((A++((c.nodes.take i).map λn=>(n.ty,n.f)).flatMap B1).flatMap AS)) (by simpa using M) ?_;intro k u4 V4 J1 hk a hJ1;refine⟨λg=>?_,λL=>?_⟩
  ·have R:=hc.sub a.sub;obtain⟨x,q,O,-,hkl,hp,hz,w⟩:=R.nodes.get g;obtain⟨n1,n2,n3,n4⟩:=t x q;refine⟨hp,hz,g,x.ty,x.sl,w,λtb htb=>?_⟩;have hprek:=F k;obtain⟨P,hP⟩:∃P,P=A++((c.nodes.take k).map λn=>(n.ty,n.f)).flatMap B1:=⟨_,rfl⟩;have hPl:P.length<=299100:=by rw[hP,zw];omega
   rw[<-hP]at a;have ety:xF .u8 x.ty=x.ty:=by rw[GI];omega
   rw[ety];refine oneB Ek (x:=x.ty) a htb (by omega) rfl rfl (λ_=>rfl) λs5 V5 o5=>⟨s5,rfl,?_⟩;refine Cz (mk:=λs:Sl=>.slice s.p s.n s.c) AG x.f.length (λj u V6=>Sx.Own V1 V6 5 1 u ((P++[x.ty]++(x.f.take j).flatMap AA).flatMap AS)) (by simpa using o5) ?_;intro j u6 V6 J2 hj E hJ2;have H:=((hc.nodesOk x q).rows).sub E.sub;refine⟨λr=>?_,λX=>?_⟩
   ·obtain⟨y,hym,hy,-,hjl,hp2,hz2,N⟩:=H.get r;have z:=n4 y hym;refine⟨hp2,hz2,r,y,N,Tri.mono (Lc E (by rw[zw,zw,DG,wX];simp;omega) (n:=y) ⟨by have:=z.1;omega,by have:=z.2;omega⟩) ?_⟩;rintro _ V7 ⟨s7,rfl,o7⟩;refine⟨s7,rfl,H.succ r,hJ2 hjl _ _ ?_⟩;have e:P++[x.ty]++(x.f.take (j+1)).flatMap AA=P++[x.ty]++(x.f.take j).flatMap AA++AA y:=by
     rw[wh,hy];simp
    rw[e];exact o7
   ·have hd3:=(H.done X).2;rw[wH (by omega)]at E;refine⟨R.nodes.succ g,hJ1 hkl _ _ ?_⟩;have e:A++((c.nodes.take (k+1)).map λn=>(n.ty,n.f)).flatMap B1=P++[x.ty]++x.f.flatMap AA:=by
     rw[hP,wh,O];simp[B1]
    rw[e];exact E
  ·have hd3:=(hc.nodes.done L).2;rw[wH (by omega)]at a;have e:A++(c.nodes.map λn=>(n.ty,n.f)).flatMap B1=Ai d m:=by
    unfold Ai;rw[<-K,hA,BK,Mm.plain];simp only[wq]
   rw[e]at a;exact⟨s1.trans a.sub,u4,rfl,Own.bt a (code_b G)⟩
end
def BN(s:Sl)(ok:Bool):Obj:=.cells #[s.v,.bool ok] 86 (0,0)
def BO(p:Nat)(s:Sl)(ok:Bool)(W V:Mem):Prop:=W.sub V/\W p=none/\V p=some (BN s ok)
theorem BO.over{p:Nat}{s:Sl}{ok:Bool}:Bc (BO p s ok):=by
 refine⟨λW V ⟨z,t,f⟩=>⟨λb=>b=p,λb g=>by rw[g];exact t,λb g=>by rw[g,f];simp,λV' w=>⟨GB,Do rfl,w _ _ rfl f⟩⟩,λW V h=>h.1⟩
theorem sub_setp{W V V':Mem}{p:Nat}{o:Obj}(f:W.sub V)(t:W p=none)(h:(V.set p o).sub V'):W.sub V':=λb x g=>by
 refine h _ _ ?_;rw[Mem.set_ne (λe=>by rw[e,t]at g;cases g)];exact f _ _ g
structure Dh (p:Nat)(s:Sl)(ok:Bool)(s':Sl)(ok':Bool)(Q Q':Mem->Mem->Prop):Prop where
 at_:∀W V,Q W V->W.sub V/\W p=none/\V p=some (BN s ok)
 to_:∀W V V',Q W V->(V.set p (BN s' ok')).sub V'->Q' W V'
section
variable{p:Nat}{s s':Sl}{ok ok':Bool}{Q Q':Mem->Mem->Prop}
theorem Dh.base:Dh p s ok s' ok' (BO p s ok) (BO p s' ok'):=
 ⟨λ_ _ h=>h,λ_ _ _ h g=>⟨sub_setp h.1 h.2.1 g,h.2.1,g _ _ As⟩⟩
theorem Dh.ql{e sz:Nat}{o:Sl}{vs:List Value}(h:Dh p s ok s' ok' Q Q'):Dh p s ok s' ok' (QL e sz Q o vs) (QL e sz Q' o vs):=
 ⟨λW V ⟨g,f,t⟩=>by
  obtain⟨w,z,y⟩:=h.at_ g V t;exact⟨f.sub.trans w,free f.sub z,y⟩,λ_ _ V' ⟨g,f,t⟩ i=>⟨g,f,h.to_ g _ V' t i⟩⟩
theorem Dh.beside{D V V':Mem}(h:Dh p s ok s' ok' Q Q')(g:Bc Q')(f:Ar D V Q)(t:(V.set p (BN s' ok')).sub V'):Ar D V' Q':=by
 obtain⟨W,w,y,z⟩:=f.use;exact Ar.mk g (h.to_ W V V' z t) w
theorem Dh.cell{D V:Mem}(h:Dh p s ok s' ok' Q Q')(g:Ar D V Q):D p=none/\V p=some (BN s ok):=by
 obtain⟨W,f,y,t⟩:=g.use;obtain⟨i,w,z⟩:=h.at_ W V t;exact⟨free f w,z⟩
end
def AU(b:List Int)(ok:Bool)(n:Nat):List Int×List Int×Bool:=if ok=true/\n<=b.length then(b.take n,b.drop n,true)else(yJ n 0,b,false)
section
variable{V B:Mem}{p:Nat}{s:Sl}{b:List Int}{ok:Bool}{n:Nat}
def rdSl(s:Sl)(b:List Int)(ok:Bool)(n:Nat):Sl:=if ok=true/\n<=b.length then⟨if(s.c:Int)=(n:Int)then s.p else Aa s.p ((n:Int).toNat*1),((s.n:Int)-(n:Int)).toNat,((s.c:Int)-(n:Int)).toNat⟩else s
theorem c248(J:B.sub V)(G:B p=none)(y:V p=some (BN s ok))(w:Bt B s b)(hn:n<=2147483648):Tri xE 48 #[pv p,.int .i64 n] V λe V'=>∃u:Sl,e=.returned u.v/\(V.set p (BN (rdSl s b ok n) (AU b ok n).2.2)).sub V'/\Bt V' u (AU b ok n).1/\Bt B (rdSl s b ok n) (AU b ok n).2.1:=by
 obtain⟨R,i⟩:∃R:Ending->Mem->Prop,R=λe V'=>∃u:Sl,e=.returned u.v/\(V.set p (BN (rdSl s b ok n) (AU b ok n).2.2)).sub V'/\Bt V' u (AU b ok n).1/\Bt B (rdSl s b ok n) (AU b ok n).2.1:=⟨_,rfl⟩;rw[<-i];refine Nt ?_;have N:=w.n;have a:=w.rows.cap;have Z:=At y 1 1 (by simp);have r:=At y 0 1 (by simp);have bad:¬(ok=true/\n<=b.length)->AQ (Aa (sa p) 1) 0 [uB false] V λV1=>
   GenK xE (.makeSlice 34 (.tmp 23) (.tmp 23)) 34 (gv [(23,uI n),(23,uI n)]) V1 λx V2=>∃H,x=uL H/\R (rV (uL H)) V2:=λz=>by
  refine AQ.at2 (off:=1) y (by simp) ?_;refine mk34 (n:=n) rfl rfl hn λg Y=>⟨⟨some ⟨g,0,none⟩,n,n⟩,rfl,?_⟩;rw[i];have e:AU b ok n=(yJ n 0,b,false):=if_neg z;have q:rdSl s b ok n=s:=if_neg z;dsimp only;rw[e,q];exact⟨_,rfl,Mem.sub_new Y _,made_bt As hn,w⟩
 refine⟨by simp,by simp,ok,Z,λf=>⟨by simp,by simp,s,r,λO=>⟨by simp,by simp,bad ?_⟩,λA=>⟨by simp,by simp,s,r,⟨by omega,by omega,by omega⟩,by simp,by simp,s,r,⟨by omega,by omega,by omega⟩,by simp,by simp,?_⟩⟩,λf=>⟨by simp,by simp,bad λh=>f h.1⟩⟩;·rintro⟨-,h⟩;omega
 ·have t:n<=b.length:=by omega
  refine AQ.at2 (off:=0) y (by simp) ?_;rw[i];have e:AU b ok n=(b.take n,b.drop n,true):=if_pos ⟨f,t⟩;have q:rdSl s b ok n=_:=if_pos ⟨f,t⟩;dsimp only;rw[e,q];have I:=w.sl (lo:=0) (hi:=n) (by omega) t;have M:=w.post (j:=n) t;have F:B.sub (V.set p (BN ⟨if(s.c:Int)=(n:Int)then s.p else Aa s.p ((n:Int).toNat*1),((s.n:Int)-(n:Int)).toNat,((s.c:Int)-(n:Int)).toNat⟩ true)):=sub_setp J G (Mem.sub.refl _);refine⟨_,rfl,?_,I.sub ?_,M⟩;·rw[f];exact Mem.sub.refl _
  ·rw[f];exact F
theorem Ld(g:B.sub V)(f:B p=none)(t:V p=some (BN s ok))(w:Bt B s b)(hn:n<=2147483648):Tri xE 48 #[pv p,.int .i64 n] V λe V'=>∃u s':Sl,e=.returned u.v/\(V.set p (BN s' (AU b ok n).2.2)).sub V'/\Bt V' u (AU b ok n).1/\Bt B s' (AU b ok n).2.1:=
 Tri.mono (c248 g f t w hn) λ_ _ ⟨u,z,y,i,r⟩=>⟨u,_,z,y,i,r⟩
theorem bits_comm(a b:Int):Go.bits .or .i64 a b=Go.bits .or .i64 b a:=by
 show yr.wrap _=yr.wrap _;rw[BitVec.or_comm]
theorem rd_pre{b:List Int}(g:An b):∀i,0<=(b.take i).foldl (λa c=>a*256+c) 0/\(b.take i).foldl (λa c=>a*256+c) 0<256^i
 |0=>by simp
 |i+1=>by
  have t:=rd_pre g i;rw[wh];have e:(256:Int)^(i+1)=256^i*256:=by rw[Int.pow_add];rfl
  cases f:b[i]? with
  |none=>
   simp only[Option.toList_none,xp];rw[e];omega
  |some x=>
   have:=g x (xQ f);simp only[ux,vH,wm,uu];rw[e];omega
theorem JG(b:List Int)(ok:Bool)(n:Nat):(AU b ok n).1.length=n:=by
 unfold AU;split
 ·rename_i h;rw[wX];omega
 ·simp
theorem rdB_b{b:List Int}(g:An b)(ok:Bool)(n:Nat):An (AU b ok n).1/\An (AU b ok n).2.1:=by
 unfold AU;split;·exact⟨g.take n,g.drop n⟩
 ·exact⟨λx f=>by rw[(List.mem_replicate.1 f).2];decide,g⟩
theorem Ou(O:B.sub V)(A:B p=none)(q:V p=some (BN s ok))(Z:Bt B s b):Tri xE 47 #[pv p] V λe V'=>∃s':Sl,e=.returned (.int .i64 (Cu (AU b ok 6).1))/\(V.set p (BN s' (AU b ok 6).2.2)).sub V'/\Bt B s' (AU b ok 6).2.1:=by
 refine Ns ?_;refine Tri.mono (Ld (n:=6) O A q Z (by decide)) ?_;rintro _ V1 ⟨u,s',rfl,I,r,v⟩;refine⟨u,rfl,?_⟩;have hl:=JG b ok 6;have g:=(rdB_b Z.b ok 6).1;obtain⟨x,M⟩:∃x,x=(AU b ok 6).1:=⟨_,rfl⟩;rw[<-M]at r hl g⊢;refine Cz (mk:=.int .i64) (b0:=0) Ax 6 (λi a V2=>V2=V1/\a=(x.take i).foldl (λa c=>a*256+c) 0) ⟨rfl,rfl⟩ ?_;rintro i a V2 J F ⟨rfl,rfl⟩ L;have R:=r.n;have f:=rd_pre g i;have X:(256:Int)^i<=281474976710656:=by
  match i,F with
  |0,_|1,_|2,_|3,_|4,_|5,_|6,_=>decide
  |_+7,h=>omega
 refine⟨λt=>?_,λC=>?_⟩
 ·have w:i<6:=by omega
  obtain⟨y,H,E,-,-,q,hz,z⟩:=r.rows.get t;have G:=g y H;have N:=rd_pre g (i+1);have Y:(256:Int)^i<=1099511627776:=by
   match i,w with
   |0,_|1,_|2,_|3,_|4,_|5,_=>decide
   |_+6,h=>omega
  refine⟨q,hz,t,y,z,⟨by omega,by omega⟩,r.rows.succ t,L w _ _ ⟨rfl,?_⟩⟩;rw[wh,E,vH];simp only[ux,wm,uu];generalize(x.take i).foldl (λa c=>a*256+c) 0=a at f⊢;rw[Eh ⟨by simp[IntKind.min,zQ,zR];omega,by simp[IntKind.max,zQ,zR];omega⟩];have:=bits_or (a:=y) (x:=a) (k:=8) G.1 (by omega) f.1 (by omega);rw[bits_comm,show a*256=a*2^8 by rfl,this];omega
 ·obtain rfl:i=6:=by omega
  have e:(x.take 6).foldl (λa c=>a*256+c) 0-140737488355328=Cu x:=by
   rw[wH (by omega)];rfl
  refine⟨⟨by omega,by omega⟩,s',?_,I,v⟩;rw[e]
end
theorem Ik{V:Mem}{s u:Sl}{b c:List Int}(g:Bt V s b)(hc:Bt V u c):PP 19 [s.v,u.v] V (.bool (decide (b=c))):=by
 refine Nk ?_;refine GenK.bstr ur uq xW rfl g ⟨_,rfl,GenK.bstr ur uq xW rfl hc ⟨_,rfl,?_⟩⟩;have e:decide (Cf b=Cf c)=decide (b=c):=decide_eq_decide.2 ⟨λh=>bsOf_inj g.b hc.b h,λh=>by rw[h]⟩;rw[e];exact⟨rfl,rfl⟩
end Go.Proofs
namespace Go.Proofs
open Go Go.Sx
def DJ(d:Ds):List Int->Option ((Int×List Int)×List Int)
 |[]=>none
 |t::r=>if(d.types.length:Int)<=t∨r.length<6*(Bg d t).length then none else some ((t,Bu (Bg d t).length r),r.drop (6*(Bg d t).length))
theorem GL(d:Ds):∀(i:Nat)(b:List Int),Bw d (i+1) b=(Bw d i b).bind λx=>(DJ d x.2).map λy=>(x.1++[y.1],y.2)
 |0,[]=>rfl
 |0,t::r=>by
  simp only[Bw,zr,DJ];split<;>simp
 |i+1,[]=>by simp[Bw]
 |i+1,t::r=>by
  rw[Bw,Bw];split;·rfl
  ·rw[GL d i];cases h:Bw d i (r.drop (6*(Bg d t).length))with
   |none=>rfl
   |some x=>
    simp only[zr];cases DJ d x.2 with
    |none=>rfl
    |some y=>rfl
theorem JH{d:Ds}{i:Nat}{b:List Int}(h:Bw d i b=none):∀j,i<=j->Bw d j b=none:=by
 intro j g;induction g with
 |refl=>exact h
 |step _ f=>rw[GL,f];rfl
theorem Le{d:Ds}{n:Nat}{b:List Int}{l:List (Int×List Int)}(h:Bw d n b=some (l,[])):Bw d (n+1) b=none:=by
 rw[GL,h];rfl
theorem JI{d:Ds}{n i:Nat}{b:List Int}{l:List (Int×List Int)}(h:Bw d n b=some (l,[])):(Bw d i b=none->n<i)/\∀x,Bw d i b=some x->i<=n/\(x.2=[]->i=n):=by
 refine⟨λt=>?_,λx g=>⟨?_,λf=>?_⟩⟩
 ·by_cases hn:n<i;·exact hn
  ·rw[JH t n (by omega)]at h;cases h
 ·by_cases hn:i<=n;·exact hn
  ·rw[JH (Le h) i (by omega)]at g;cases g
 ·obtain⟨z,w⟩:=x;have f:w=[]:=f;subst f;by_cases y:i<n;·rw[JH (Le g) n (by omega)]at h;cases h
  ·by_cases r:n<i;·rw[JH (Le h) i (by omega)]at g;cases g
   ·omega
theorem dec_form{d:Ds}{b:List Int}{m:Mm}(h:AL d)(w:d.types.length<=256)(hl:¬b.length<6*(d.globals.length+1))(hz:m.plain=([],[]))
  (hn:∀x:Mm,AB d x=true->Bx d x=x.plain->BK x.plain=b->Cu ((b.drop (6*d.globals.length)).take 6)=x.plain.2.length->x.plain.2.length<=4096->Bw d x.plain.2.length (b.drop (6*d.globals.length+6))=some (x.plain.2,[])->x.plain.1=Bu d.globals.length b->False):DecQ d b m 7:=
 .form h hl hz λx hv hc hr=>by
  obtain⟨g,f,t⟩:=raw_parse (ET hv) w;rw[hr]at g f t;exact hn x hv hc hr f (ET hv).len t g.symm
end Go.Proofs
namespace Go.Proofs
open Go Go.Sx
attribute [local irreducible] Go.Sx.Tri
section
variable{D V:Mem}{d:Ds}{s:Sl}{b:List Int}{p:Nat}{e sz:Nat}{Q:Mem->Mem->Prop}{o:Sl}{vs:List Value}
theorem QL.forget(g:Bc Q)(h:Ar D V (QL e sz Q o vs)):Ar D V Q:=by
 obtain⟨W,f,z,y,t,w⟩:=h.use;exact Ar.mk g w (f.trans t.sub)
theorem QL.brows{α:Type}{row:α->List Value}{xs:List α}(g:Bc Q)(hl:∀x,(row x).length=sz)(hz:0<sz)(h:Ar D V (QL e sz Q o (xs.flatMap row))):Ad V o sz (xs.map row):=by
 obtain⟨W,t,w,f⟩:=h.use;exact QL.rows g hl hz f
def DecR(V:Mem)(d:Ds)(b:List Int):Ending->Mem->Prop:=λe V'=>V.sub V'/\∃(m:Mm)(er:Int),e=.returned (.tuple #[m.v,.int .i64 er])/\Mm.Ok V' m/\DecQ d b m er
theorem zero_ok(V:Mem):Mm.Ok V Fc:=⟨Ad.nil,(λx g=>by cases g),Ad.nil,λn hn=>by cases hn⟩
theorem Hx{b:List Int}{ok:Bool}{n:Nat}(h:ok=true/\n<=b.length):AU b ok n=(b.take n,b.drop n,true):=if_pos h
theorem rd_none{b:List Int}{ok:Bool}{n:Nat}(h:¬(ok=true/\n<=b.length)):AU b ok n=(yJ n 0,b,false):=if_neg h
theorem inC_I{x:Int}(h:CM x):EM x:=⟨by have:=h.1;omega,by have:=h.2;omega⟩
theorem rdNum{Q':Bool->Sl->Mem->Mem->Prop}{ok:Bool}(f:∀ok' s',Dh p s ok s' ok' (Q' ok s) (Q' ok' s'))(t:∀ok' s',Bc (Q' ok' s'))(h:Ar D V (Q' ok s))(w:Bt D s b){R:Ending->Mem->Prop}
  (z:∀s' V',Bt D s' (AU b ok 6).2.1->Ar D V' (Q' (AU b ok 6).2.2 s')->R (.returned (.int .i64 (Cu (AU b ok 6).1))) V'):Tri xE 47 #[pv p] V R:=by
 obtain⟨y,hc⟩:=(f ok s).cell h;refine Tri.mono (Ou h.sub y hc w) ?_;rintro _ V1 ⟨s',rfl,i,g⟩;exact z s' V1 g ((f _ _).beside (t _ _) h i)
theorem Lf[hT:Tab V](hd:Ds.Ok V d)(hb:Bt V s b)(hlen:b.length<=2147483648):Tri xE 20 #[d.v,s.v] V (DecR V d b):=by
  obtain⟨R,hR⟩:∃R,R=DecR V d b:=⟨_,rfl⟩;rw[<-hR];refine NX ?_;have hz:Fc.plain=([],[]):=rfl;have out:∀{er:Int}{V':Mem},V.sub V'->DecQ d b Fc er->R (.returned (.tuple #[.agg #[.slice none 0 0,.slice none 0 0],.int .i64 er])) V':=λhs h=>by
    rw[hR];exact⟨hs,Fc,_,rfl,zero_ok _,h⟩
  refine(Ij hd).call ⟨_,rfl,λh1=>?_,λh1=>out (Mem.sub.refl V) (.arg (λh=>h1 (decide_eq_true h)) hz)⟩;have hr:AL d:=of_decide_eq_true h1;obtain⟨b1,b2,b3⟩:=GK hr.1;have hgn:=hd.globals.n_eq;have hgl:d.gs.n=d.globals.length:=by simpa using hgn
  have hbn:=hb.n;refine⟨⟨by omega,by omega⟩,⟨by omega,by omega⟩,λhsh=>out (Mem.sub.refl V) (.short hr (by omega) hz),λhsh=>?_⟩;have hl6:¬b.length<6*(d.globals.length+1):=by omega
  have form:∀{V':Mem},V.sub V'->(∀x:Mm,AB d x=true->Bx d x=x.plain->BK x.plain=b->Cu ((b.drop (6*d.globals.length)).take 6)=x.plain.2.length->x.plain.2.length<=4096->Bw d x.plain.2.length (b.drop (6*d.globals.length+6))=some (x.plain.2,[])->x.plain.1=Bu d.globals.length b->False)->R (.returned (.tuple #[.agg #[.slice none 0 0,.slice none 0 0],.int .i64 7])) V':=λhs h=>out hs (dec_form hr (by omega) hl6 hz h);intro p a;have hp0:Aa (some (⟨p,0,none⟩:Addr)) 0=some ⟨p,0,none⟩:=by simp[Aa,Addr.add]
  simp only[hp0];have s0:=Mem.sub_new a (BN s true);have B0:Ar V (V.set p (BN s true)) (BO p s true):=Ar.mk BO.over (W:=V) ⟨s0,a,Mem.set_same _ _ _⟩ (Mem.sub.refl V);refine⟨λm xs V3=>∃(i:Nat)(o s3:Sl),m=d.globals.length-i/\i<=d.globals.length/\xs=[.slice o.p o.n o.c,.slice none 0 0,.int .i64 i]/\Ar V V3 (QL 3 1 (BO p s3 true) o ((Bu i b).flatMap Am))/\Bt V s3 (b.drop (6*i)),d.globals.length,
    ⟨0,Ah,s,by simp,by omega,rfl,QL.start BO.over B0,by simpa using hb⟩,?_⟩
  rintro m V3 I v12 v13 ⟨i,o,s3,rfl,hi,Y,B3,hb3⟩ J hJ;simp only[yE,and_true]at Y;obtain⟨q1,q2,q3⟩:=Y;cases AG _ _ q1;cases AG v12 Ah q2;cases Ax _ _ q3;have hdrop:(b.drop (6*i)).length=b.length-6*i:=wY;refine⟨λK=>?_,λhge=>?_⟩
  · have K:(i:Int)<(d.gs.n:Int):=K;have S:AU (b.drop (6*i)) true 6=_:=Hx ⟨rfl,by omega⟩;refine rdNum (Q':=λok' s'=>QL 3 1 (BO p s' ok') I ((Bu i b).flatMap Am)) (ok:=true) (λ_ _=>Dh.base.ql) (λ_ _=>QL.over BO.over) B3 hb3 λs4 V4 H B4=>⟨_,rfl,λtb T=>?_⟩;rw[S]at H B4;rw[S];refine ER DU (row:=Am) (x:=Cu ((b.drop (6*i)).take 6)) (λ_=>rfl) BO.over B4 T (by rw[H6];omega) rfl rfl rfl λo5 V5 B5=>⟨o5,rfl,⟨by omega,by omega⟩,hJ _ _ _ (show d.globals.length-(i+1)<d.globals.length-i by omega) ⟨i+1,o5,s4,rfl,by omega,rfl,by rw[H7];exact B5,?_⟩⟩;rw[vY]at H;rw[show 6*(i+1)=6*i+6 by omega];exact H
  have hge:¬(i:Int)<(d.gs.n:Int):=hge;obtain rfl:i=d.globals.length:=by omega
  have S:AU (b.drop (6*d.globals.length)) true 6=_:=Hx ⟨rfl,by omega⟩;refine rdNum (Q':=λok' s'=>QL 3 1 (BO p s' ok') I ((Bu d.globals.length b).flatMap Am)) (ok:=true) (λ_ _=>Dh.base.ql) (λ_ _=>QL.over BO.over) B3 hb3 λs4 V4 H B4=>⟨_,rfl,?_⟩;rw[S]at H B4;rw[S];dsimp only at H B4⊢;rw[vY]at H;obtain⟨N,hN⟩:∃N,N=Cu ((b.drop (6*d.globals.length)).take 6):=⟨_,rfl⟩;rw[<-hN]at form⊢;refine⟨λhneg=>form B4.sub λx _ _ _ h _ _ _=>by omega,λhneg=>⟨λhbig=>form B4.sub λx _ _ _ h _ _ _=>by omega,λhbig=>?_⟩⟩;obtain⟨n,hn⟩:∃n:Nat,N=n:=⟨N.toNat,by omega⟩;obtain⟨D1,U,hg1,B5⟩:=QL.pub (row:=Am) BO.over (λ_=>rfl) (by decide) B4;obtain⟨c,hc⟩:∃c,c=b.drop (6*d.globals.length+6):=⟨_,rfl⟩;rw[<-hc]at form H;have hcl:c.length<=2147483648:=by rw[hc,wY];omega
  refine⟨fun m xs V5=>∃(i:Nat)(o2:Sl),m=n-i/\i<=n/\xs=[.slice I.p I.n I.c,.slice o2.p o2.n o2.c,.int .i64 0,.int .i64 i] /\
      ((∃(D:Mem)(z:List Nd)(s':Sl)(r:List Int),D1.sub D/\Ar D V5 (QL 90 2 (BO p s' true) o2 (z.flatMap Nd.row))/\(∀x∈z,Nd.Ok D x)/\Bw d i c=some (z.map (λx=>(x.ty,x.f)),r)/\Bt D s' r/\z.length=i/\r.length<=2147483648)∨
       (∃(D:Mem)(s':Sl)(r:List Int),D1.sub D/\Ar D V5 (BO p s' false)/\Bt D s' r/\Bw d i c=none)),n,
    ⟨0,Ah,by simp,by omega,rfl,.inl ⟨D1,[],s4,c,Mem.sub.refl _,QL.start BO.over B5,by simp,rfl,H.sub U,rfl,hcl⟩⟩,?_⟩
  rintro m V5 v15 v16 v17 v18 ⟨i,o2,rfl,hi2,Y,hst⟩ J1 hJ1;simp only[yE,and_true]at Y;obtain⟨q1,q2,q3,q4⟩:=Y;cases AG _ _ q1;cases AG _ _ q2;cases Ax _ _ q3;cases Ax _ _ q4;refine⟨λK=>?_,λhge2=>?_⟩
  · have K:(i:Int)<N:=K;have hin:i<n:=by omega
    have bad:∀{V':Mem},V.sub V'->Bw d (i+1) c=none->R (.returned (.tuple #[.agg #[.slice none 0 0,.slice none 0 0],.int .i64 7])) V':=λhs hnone=>form hs λx _ _ _ h _ a _=>by
      have:=(JI (i:=i+1) a).1 hnone;omega
    rcases hst with⟨D,z,s',r,hD,A,hnds,w,O,hndl,hrl⟩|⟨D,s',r,hD,A,O,w⟩;rotate_left
    · obtain⟨h0,g⟩:=(Dh.base (s':=s') (ok':=false)).cell A;refine Tri.mono (Ld (n:=1) A.sub h0 g O (by decide)) ?_;rintro _ V6 ⟨u,s6,rfl,L,X,hb6⟩;have hno:AU r false 1=_:=rd_none (by simp);rw[hno]at L X hb6;have B7:=(Dh.base (ok':=false) (s':=s6)).beside BO.over A L;have hs7:=(U.trans hD).trans B7.sub;obtain⟨y,-,C,-,-,hup,huz,M⟩:=X.rows.get (i:=0) (by rw[X.n];simp);have Z:=L _ _ As;have hyb:=X.b y (xQ C);refine⟨u,rfl,hup,by omega,by rw[X.n];simp,y,M,⟨by omega,by omega⟩,by simp,by simp,false,At Z 1 1 (by simp),λh=>absurd h (by decide),λ_=>bad hs7 ?_⟩;rw[GL,w];rfl
    obtain⟨h0,g⟩:=(Dh.base (s':=s') (ok':=true)).ql.cell A;refine Tri.mono (Ld (n:=1) A.sub h0 g O (by decide)) ?_;rintro _ V6 ⟨u,s6,rfl,L,X,hb6⟩;have B7:=Dh.base.ql.beside (QL.over BO.over) A L;have hs7:=(U.trans hD).trans B7.sub;obtain⟨y,-,C,-,-,hup,huz,M⟩:=X.rows.get (i:=0) (by rw[X.n,JG];simp);have Z:=L _ _ As;have hyb:=X.b y (xQ C);refine⟨u,rfl,hup,by omega,by rw[X.n,JG];simp,y,M,⟨by omega,by omega⟩,by simp,by simp,_,At Z 1 1 (by simp),λhok=>?_,λhok=>bad hs7 ?_⟩;rotate_left
    · cases r with
      |nil=>rw[GL,w];rfl
      |cons t r=>
        rw[Hx ⟨rfl,by simp⟩]at hok;exact absurd rfl hok
    cases r with
    |nil=>
      rw[rd_none (by simp)]at hok;cases hok
    |cons t r=>
    rw[Hx ⟨rfl,by simp⟩]at C hb6 B7;simp only[List.take_succ_cons,List.take_zero,List.getElem?_cons_zero,zF]at C;subst C;simp only[List.drop_succ_cons,List.drop_zero]at hb6 B7;have hsn:Bw d (i+1) c=(DJ d (t::r)).map λy=>(z.map (λx=>(x.ty,x.f))++[y.1],y.2):=by rw[GL,w];rfl
    have htn:=hd.types.n_eq;have htn:d.ts.n=d.types.length:=by simpa using htn
    refine⟨λhbigT=>bad hs7 ?_,λhokT=>?_⟩;· rw[hsn,DJ,if_pos (.inl (by omega))];rfl
    obtain⟨k,hk⟩:∃k:Nat,t=k:=⟨t.toNat,by omega⟩;obtain⟨ty,htm,hty,-,-,htp,htz,htrow⟩:=(hd.types.sub hs7).get (i:=k) (by omega);have hfo:=Fv hty hk;have hfl:=b3 t;rw[hfo]at hfl;have hfn:=(hd.typesOk ty htm).fields.n_eq;have hrl':r.length<=2147483648:=by rw[zy]at hrl;omega
    have hp1:DJ d (t::r)=if r.length<6*ty.fields.length then none else some ((t,Bu ty.fields.length r),r.drop (6*ty.fields.length)):=by
      rw[DJ,hfo];by_cases h:r.length<6*ty.fields.length;· rw[if_pos h,if_pos (.inr h)]
      · rw[if_neg h,if_neg (by omega)]
    rw[hk];refine⟨htp,by omega,by omega,Ak htp,ty.name,ty.fs,htrow,?_⟩;have B8:Ar D V6 (QL 3 1 (QL 90 2 (BO p s6 true) v16 (z.flatMap Nd.row)) Ah (([]:List Int).flatMap Am)):=QL.start (QL.over BO.over) B7;refine⟨fun m xs V7=>∃(j:Nat)(o3 s':Sl)(ok:Bool)(ws r':List Int),m=ty.fields.length-j/\j<=ty.fields.length/\xs=[.int .i64 (k:Int),.slice o3.p o3.n o3.c,.int .i64 j] /\
        Ar D V7 (QL 3 1 (QL 90 2 (BO p s' ok) v16 (z.flatMap Nd.row)) o3 (ws.flatMap Am))/\Bt D s' r'/\ws.length=j/\(ok=true->6*j<=r.length/\ws=Bu j r/\r'=r.drop (6*j))/\(ok=false->r.length<6*j),ty.fields.length,
      ⟨0,Ah,s6,true,[],r,by simp,by omega,rfl,B8,hb6,rfl,(λ_=>⟨by omega,rfl,by simp⟩),λh=>absurd h (by decide)⟩,?_⟩
    rintro m V7 v24 v25 v26 ⟨j,o3,s7,ok,ws,r7,rfl,hj,Y,B9,hb7,hwl,hok1,hok2⟩ J2 hJ2;simp only[yE,and_true]at Y;obtain⟨q1,q2,q3⟩:=Y;cases Ax _ _ q1;cases AG _ _ q2;cases Ax _ _ q3;refine⟨λhlt2=>?_,λhge3=>?_⟩
    · have hlt2:(j:Int)<(ty.fs.n:Int):=hlt2;refine rdNum (Q':=λok' s'=>QL 3 1 (QL 90 2 (BO p s' ok') v16 (z.flatMap Nd.row)) v25 (ws.flatMap Am)) (ok:=ok) (λ_ _=>Dh.base.ql.ql) (λ_ _=>QL.over (QL.over BO.over)) B9 hb7 λs8 V8 hb8 B10=>⟨_,rfl,λtb T=>?_⟩;refine ER DU (row:=Am) (x:=Cu (AU r7 ok 6).1) (λ_=>rfl) (QL.over BO.over) B10 T (by omega) rfl rfl rfl λo5 V9 B11=>⟨o5,rfl,⟨by omega,by omega⟩,hJ2 _ _ _ (show ty.fields.length-(j+1)<ty.fields.length-j by omega) ⟨j+1,o5,s8,_,_,_,rfl,by omega,rfl,B11,hb8,by rw[zw,hwl];rfl,λh=>?_,λh=>?_⟩⟩
      · by_cases hc:ok=true/\6<=r7.length
        · obtain⟨a1,a2,a3⟩:=hok1 hc.1;have hc2:=hc.2;rw[a3,wY]at hc2;rw[Hx hc];refine⟨by omega,by rw[H7,a2,a3],?_⟩;rw[a3,vY,show 6*(j+1)=6*j+6 by omega]
        · rw[rd_none hc]at h;cases h
      · by_cases hc:ok=true/\6<=r7.length;· rw[Hx hc]at h;cases h
        · cases hk2:ok with
          |false=>have:=hok2 hk2;omega
          |true=>
            obtain⟨a1,a2,a3⟩:=hok1 hk2;have:¬6<=r7.length:=λh6=>hc ⟨hk2,h6⟩;rw[a3,wY]at this;omega
    · have hge3:¬(j:Int)<(ty.fs.n:Int):=hge3;obtain rfl:j=ty.fields.length:=by omega
      intro tb T;obtain⟨D2,hD2,hf2,B10⟩:=QL.pub (row:=Am) (QL.over BO.over) (λ_=>rfl) (by decide) B9;refine ER app48 (row:=Nd.row) (x:=⟨k,v25,ws⟩) (λ_=>rfl) BO.over B10 T (by omega) rfl rfl rfl λo5 V9 B11=>⟨o5,rfl,⟨by omega,by omega⟩,hJ1 _ _ _ (show n-(i+1)<n-i by omega) ⟨i+1,o5,rfl,by omega,rfl,?_⟩⟩;cases ok with
      |false=>
        have:=hok2 rfl;refine .inr ⟨D2,s7,r7,hD.trans hD2,QL.forget BO.over B11,hb7.sub hD2,?_⟩;rw[hsn,hp1,if_pos (by omega)];rfl
      |true=>
        obtain⟨a1,a2,a3⟩:=hok1 rfl;have hrb:An r:=λx E=>O.b x (za _ E);refine .inl ⟨D2,z++[⟨k,v25,ws⟩],s7,r7,hD.trans hD2,B11,λx E=>?_,?_,hb7.sub hD2,by rw[zw,hndl];rfl,by rw[a3,wY];omega⟩
        · rcases wZ.1 E with E|E;· exact(hnds x E).sub hD2
          · rw[zO.1 E];refine⟨hf2,⟨by show -9223372036854775808<=(k:Int);omega,by show(k:Int)<=9223372036854775807;omega⟩,λy C=>?_⟩;have C:y∈ws:=C;rw[a2]at C;unfold Bu at C;obtain⟨q,hq,rfl⟩:=wc.1 C;have:=yY.1 hq;exact inC_I (Ho (by rw[wX,wY];omega) (F6 hrb _ _))
        · rw[hsn,hp1,if_neg (by omega),yP,<-hk,a2,a3];rfl
  · have hge2:¬(i:Int)<N:=hge2;obtain rfl:i=n:=by omega
    rcases hst with⟨D,z,s',r,hD,A,hnds,w,O,hndl,hrl⟩|⟨D,s',r,hD,A,O,w⟩;rotate_left
    · obtain⟨h0,g⟩:=(Dh.base (s':=s') (ok':=false)).cell A;refine⟨by simp,by simp,false,At g 1 1 (by simp),λh=>absurd h (by decide),λ_=>form ((U.trans hD).trans A.sub) λx _ _ _ h _ a _=>?_⟩;rw[show x.plain.2.length=i by omega,w]at a;cases a
    obtain⟨h0,g⟩:=(Dh.base (s':=s') (ok':=true)).ql.cell A;have F:=(U.trans hD).trans A.sub;refine⟨by simp,by simp,true,At g 1 1 (by simp),λ_=>⟨by simp,by simp,s',At g 0 1 (by simp),λhpos=>form F λx _ _ _ h _ a _=>?_,λhpos=>?_⟩,λh=>absurd rfl h⟩
    · rw[show x.plain.2.length=i by omega,w]at a;have hrn:=O.n;simp only[zF,zS]at a;have:r=[]:=a.2;rw[this]at hrn;simp at hrn;omega
    have hr0:r=[]:=by
      have hrn:=O.n;exact List.length_eq_zero_iff.1 (by omega)
    subst hr0;obtain⟨mm,hmm⟩:∃mm:Mm,mm=⟨I,Bu d.globals.length b,v16,z⟩:=⟨_,rfl⟩;have hmpl:mm.plain=(Bu d.globals.length b,z.map λx=>(x.ty,x.f)):=by rw[hmm];rfl
    have hgI:∀x∈Bu d.globals.length b,EM x:=λx E=>by
      unfold Bu at E;obtain⟨q,hq,rfl⟩:=wc.1 E;have:=yY.1 hq;exact inC_I (Ho (by rw[wX,wY];omega) (F6 hb.b _ _))
    have hmo:Mm.Ok V5 mm:=by
      rw[hmm];exact⟨hg1.sub (hD.trans A.sub),hgI,QL.brows BO.over (λ_=>rfl) (by decide) A,λx E=>(hnds x E).sub A.sub⟩
    have hd5:=hd.sub F;haveI hT5:Tab V5:=hT.sub F;have same:∀x:Mm,N=x.plain.2.length->Bw d x.plain.2.length c=some (x.plain.2,[])->x.plain.1=Bu d.globals.length b->x.plain=mm.plain:=λx h a hg=>by
      rw[show x.plain.2.length=i by omega,w]at a;simp only[zF,zS]at a;rw[hmpl,<-hg,a.1]
    have hraw:BK mm.plain=b:=by
      rw[hmpl];exact parse_raw hb.b hl6 (n:=i) (by rw[<-hN,hn]) (by rw[<-hc];exact w)
    have hcall:=H1 hd5 hmo;have ev:mm.v=uA #[uL I,uL v16]:=by rw[hmm];rfl
    rw[ev]at hcall;refine hcall.call ⟨_,rfl,λhv=>?_,λhv=>form F λx hvx _ _ h _ a hg=>hv (KP (same x h a hg) hvx)⟩;have hv:AB d mm=true:=hv;have G:BR d mm:=⟨hr.1,hr.2,hv⟩;have henc:=JF G hd5 hmo;rw[ev]at henc;refine Tri.mono henc ?_;rintro _ V6 ⟨s6,u,rfl,X⟩;refine⟨u,rfl,(Ik X ((hb.sub F).sub s6)).call ⟨_,rfl,λhe=>?_,λhe=>form (F.trans s6) λx _ hcx hrx h _ a hg=>?_⟩⟩
    · have he:Ai d mm=b:=of_decide_eq_true he;rw[hR];refine⟨F.trans s6,mm,0,by rw[ev],hmo.sub s6,.ok hr hl6 hv ?_ hraw⟩;exact Jk (Ii G) (ET hv) (by unfold Ai at he;rw[he,hraw])
    · have hxm:=same x h a hg;refine he (decide_eq_true ?_);unfold Ai;rw[<-K2 hxm,hcx,hrx]
end
end Go.Proofs
