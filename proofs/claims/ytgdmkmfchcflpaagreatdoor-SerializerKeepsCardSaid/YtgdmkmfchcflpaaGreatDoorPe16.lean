/- Part 16: no statement of the seat is proved here. -/
import Derived.Test.YtgdmkmfchcflpaaGreatDoorPe15
set_option linter.unusedVariables false
set_option linter.unusedSimpArgs false
open List renaming mem_singleton->zO
open Go.Addr renaming add->zE
namespace Go.Proofs
open Go Go.Sx
attribute [local irreducible] Go.Sx.Tri
def numD(gs:Sl):Ds:=⟨Ac [110,117,109,98,101,114],Ah,[],gs,[⟨Ac [110],Ac [105,110,116]⟩],Ah,[],Ah,[],Ah,[],Ah,[],Ah,[]⟩
def numM(s:Sl)(v:Int):Mm:=⟨s,[v],Ah,[]⟩
theorem JO(gs:Sl):AL (numD gs):=⟨by kernel_rfl,by kernel_rfl⟩
theorem Lr(gs s:Sl):(BR (numD gs) (numM s 5)/\BR (numD gs) (numM s (-7)))/\BR (numD gs) (numM s 1):=⟨⟨⟨by kernel_rfl,by kernel_rfl,by kernel_rfl⟩,⟨by kernel_rfl,by kernel_rfl,by kernel_rfl⟩⟩,⟨by kernel_rfl,by kernel_rfl,by kernel_rfl⟩⟩
theorem Iq(gs s:Sl):Bx (numD gs) (numM s 5)=([5],[])/\Bx (numD gs) (numM s (-7))=([-7],[]):=⟨by kernel_rfl,by kernel_rfl⟩
theorem num_ok{V:Mem}{s:Sl}{v:Int}(h:Ad V s 1 ([v].map Am))(k:EM v):Mm.Ok V (numM s v):=⟨h,λx g=>by rw[zO.1 g];exact k,Ad.nil,λn f=>by cases f⟩
theorem JP{page aft:Int}:DI (By page aft) 0:=by
 have h:Ao (By page aft).page.toNat (By page aft).data=([],0):=Ib _;exact⟨by rw[h];rfl,by rw[h];rfl,by rw[h];exact Nat.le_refl 0⟩
theorem FH{d:Ds}{k:Dk}{ms:List Mm}(g:AL d)(h:∀m∈ms,AB d m=true)(f:AY k=true):CU d k ms=DH k (ms.map (Ai d)):=by
 unfold CU;rw[if_pos ⟨g,EU.2 h,f⟩]
section
variable{V:Mem}
theorem Ir:Tri Tryz.prog 28 #[] V λe V'=>V.sub V'/\∃gs:Sl,e=.returned (numD gs).v/\Ds.Ok V' (numD gs):=by
 refine Nm ?_;intro p k;have g:Aa (some (⟨p,0,none⟩:Addr)) 0=some ⟨p,0,none⟩:=by simp[Aa,zE]
 simp only[g];refine⟨Mem.sub_new k _,⟨some ⟨p,0,none⟩,1,1⟩,rfl,?_⟩;exact⟨Ad.nil,(λx h=>by cases h),Ad.cells (xs:=[⟨Ac [110],Ac [105,110,116]⟩]) (row:=Fld.row) As rfl (λ_=>rfl) rfl (by simp),Ad.nil,(λx h=>by cases h),Ad.nil,(λx h=>by cases h),Ad.nil,(λx h=>by cases h),Ad.nil,(λx h=>by cases h),Ad.nil,(λx h=>by cases h)⟩
theorem code2{gs:Sl}{v:Int}{s:Sl}(h:Bx (numD gs) (numM s v)=([v],[])):(Ai (numD gs) (numM s v)).length=12:=by
 unfold Ai;rw[h];show(([v].flatMap AA)++AA 0++[]).length=12;rw[List.append_nil,List.length_append,DG,De];rfl
theorem c8[hT:Tab V]:PP 8 [] V (.bool true):=by
 obtain⟨R,S⟩:∃R:Ending->Mem->Prop,R=λe V'=>e=.returned (.bool true)/\V.sub V':=⟨_,rfl⟩;refine AP.mk ?_;rw[<-S];refine x8 ?_;unfold w8;have T:=JB (V:=V) (page:=32) (aft:=-1);rw[if_pos (by decide)]at T;have U:AX (By 32 (-1)) []:=JA (by decide) (by decide) (by decide) (by decide);have C0:DI (By 32 (-1)) 0:=JP;refine T.call ⟨32,Ah,0,-1,0,rfl,?_⟩;refine(λh=>And.intro h h) ?_;refine Tri.mono Ir ?_;rintro _ V2 ⟨s2,gs,rfl,hd⟩;refine⟨_,_,_,_,_,_,_,_,rfl,λp hp=>?_⟩;have Q:Aa (some (⟨p,0,none⟩:Addr)) 0=some ⟨p,0,none⟩:=by simp[Aa,zE]
 simp only[Q];have s3:=Mem.sub_new hp (.cells #[.int .i64 5] 3 (0,0));have v:=s2.trans s3;haveI:Tab (V2.set p (.cells #[.int .i64 5] 3 (0,0))):=Tab.sub (V:=V) inferInstance v;have hm:Mm.Ok (V2.set p (.cells #[.int .i64 5] 3 (0,0))) (numM ⟨some ⟨p,0,none⟩,1,1⟩ 5):=num_ok (Ad.cells (xs:=[(5:Int)]) (row:=Am) As rfl (λ_=>rfl) rfl (by simp)) ⟨by decide,by decide⟩;obtain⟨G5,-⟩:=(Lr gs ⟨some ⟨p,0,none⟩,1,1⟩).1;have o:=code2 (Iq gs ⟨some ⟨p,0,none⟩,1,1⟩).1;refine Tri.mono (GN (k:=By 32 (-1)) (s:=Ah) (hd.sub s3) Bt.nil (by simp[By]) hm) ?_;rintro _ V4 ⟨s4,t4,rfl,w⟩;rw[FH (JO gs) (λm hm=>by rw[zO.1 hm];exact G5.mem) U.ok]at w⊢;obtain⟨c5,t⟩:∃c5,c5=Ai (numD gs) (numM ⟨some ⟨p,0,none⟩,1,1⟩ 5):=⟨_,rfl⟩;have c:[numM ⟨some ⟨p,0,none⟩,1,1⟩ 5].map (Ai (numD gs))=[c5]:=by rw[t];rfl
 rw[c]at w⊢;rw[<-t]at o;rcases U.adds C0 (by decide) (l:=[c5]) (by simp) (by simp[o]) (by simp)with⟨k1,P,O,C1,-,b,-⟩|⟨b,-⟩;rotate_left;·exact absurd b (by decide)
 rw[P]at w⊢;refine⟨_,t4,_,_,_,_,rfl,?_⟩;refine(λh=>And.intro h h) ?_;have A:=v.trans s4;refine Tri.mono Ir ?_;rintro _ V5 ⟨s5,u,rfl,I⟩;refine⟨_,_,_,_,_,_,_,_,rfl,λz M=>?_⟩;have Q:Aa (some (⟨z,0,none⟩:Addr)) 0=some ⟨z,0,none⟩:=by simp[Aa,zE]
 simp only[Q];have s6:=Mem.sub_new M (.cells #[.int .i64 (-7)] 3 (0,0));have H:=s5.trans s6;have J:=A.trans H;haveI:Tab (V5.set z (.cells #[.int .i64 (-7)] 3 (0,0))):=Tab.sub (V:=V) inferInstance J;have F:Mm.Ok (V5.set z (.cells #[.int .i64 (-7)] 3 (0,0))) (numM ⟨some ⟨z,0,none⟩,1,1⟩ (-7)):=num_ok (Ad.cells (xs:=[(-7:Int)]) (row:=Am) As rfl (λ_=>rfl) rfl (by simp)) ⟨by decide,by decide⟩;obtain⟨-,G7⟩:=(Lr u ⟨some ⟨z,0,none⟩,1,1⟩).1;have G:=code2 (Iq u ⟨some ⟨z,0,none⟩,1,1⟩).2;have hl1:=(BF O.ok).2.2.1;refine Tri.mono (GN (k:=k1) (s:=t4) (I.sub s6) (w.sub H) (by omega) F) ?_;rintro _ V7 ⟨s7,t7,rfl,y⟩;rw[FH (JO u) (λm hm=>by rw[zO.1 hm];exact G7.mem) O.ok]at y⊢;obtain⟨c7,q⟩:∃c7,c7=Ai (numD u) (numM ⟨some ⟨z,0,none⟩,1,1⟩ (-7)):=⟨_,rfl⟩;have a:[numM ⟨some ⟨z,0,none⟩,1,1⟩ (-7)].map (Ai (numD u))=[c7]:=by rw[q];rfl
 rw[a]at y⊢;rw[<-q]at G;have haf1:k1.aft=-1:=b rfl;rcases O.adds C1 (by decide) (l:=[c7]) (by simp) (by simp[o,G]) (by simp)with⟨k2,L,A2,-⟩|⟨haf2,-⟩;rotate_left;·omega
 rw[L]at y⊢;refine⟨_,t7,_,_,_,_,rfl,?_⟩;have X:=J.trans s7;refine Tri.mono Ir ?_;rintro _ V8 ⟨s8,g,rfl,B⟩;have N:=X.trans s8;haveI:Tab V8:=Tab.sub (V:=V) inferInstance N;have hl2:=(BF A2.ok).2.2.1;refine⟨_,_,_,_,_,_,_,_,rfl,Tri.mono (JL (k:=k2) (s:=t7) (i:=0) B (y.sub s8) (by omega)) ?_⟩;rintro _ V9 ⟨s9,m,er,rfl,j,hq⟩;have Z:DecQ (numD g) c5 m er:=A2.load (JO g) (i:=0) rfl hq;obtain⟨C,-⟩:=(Lr g ⟨some ⟨p,0,none⟩,1,1⟩).1;have D:c5=Ai (numD g) (numM ⟨some ⟨p,0,none⟩,1,1⟩ 5):=by
  rw[t];unfold Ai;rw[(Iq gs _).1,(Iq g _).1]
 rw[D]at Z;obtain⟨rfl,d,-,-⟩:=Lh C Z;rw[(Iq g _).1]at d;have hg:m.globals=[5]:=congrArg Prod.fst d;have hn:m.nodes.map (λn=>(n.ty,n.f))=[]:=congrArg Prod.snd d;have r:=j.globals.n_eq;have Y:=j.nodes.n_eq;have E:m.nodes=[]:=List.map_eq_nil_iff.1 hn;rw[hg]at r;rw[E]at Y;obtain⟨-,-,-,-,-,K,-,-⟩:=j.globals.get (i:=0) (by rw[r];simp);have W:=j.globals.at_get (i:=0) (x:=5) (by rw[hg];rfl);refine⟨m.gs,m.ns,0,rfl,λ_=>⟨λ_=>⟨λ_=>⟨λ_=>⟨λ_=>⟨λ_=>⟨λ_=>⟨K,by decide,by rw[r];simp,5,W,λ_=>?_,λh=>absurd (by first|trivial|rfl) h⟩,λh=>absurd (by rw[r];rfl) h⟩,λh=>absurd (by first|trivial|rfl) h⟩,λh=>absurd (by first|trivial|rfl) h⟩,λh=>absurd (by first|trivial|rfl) h⟩,λh=>absurd (by first|trivial|rfl) h⟩,λh=>absurd (by first|trivial|rfl) h⟩,λh=>absurd (by first|trivial|rfl) h⟩;rw[S];refine⟨?_,N.trans s9⟩;rw[Y];rfl
end
end Go.Proofs
