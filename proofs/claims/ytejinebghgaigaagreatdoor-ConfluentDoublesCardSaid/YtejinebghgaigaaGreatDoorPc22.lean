/- Part 22: no statement of the seat is proved here. -/
import Derived.Test.YtejinebghgaigaaGreatDoorPc16
import Derived.Test.YtejinebghgaigaaGreatDoorPc19
import Derived.Test.YtejinebghgaigaaGreatDoorPc21
set_option linter.unusedVariables false
set_option linter.unusedSimpArgs false
open Go.Proofs.Tryz renaming prog->xG,call39->uF,call41->uG,call40->uH,call42->uJ,f11->uK
open List renaming map_cons->zG,lookup_cons->zb,map_singleton->vd,mem_singleton->zO,mem_cons->yE,map_nil->xp,not_mem_nil->xE,getElem?_map->y6,length_map->xi
open Go.IntKind renaming i64->yq
open Array renaming replicate->wH
namespace Go.Proofs
open Go Go.Sx
attribute [local irreducible] Go.Sx.Tri
def Bu:KB:=Ac [67]
def E5:KB:=Ac [110]
def Dk:KB:=Ac [110,101,120,116]
def CM:KB:=Ac [102,105,114,115,116]
def El:KB:=Ac [107]
def AU:KB:=Ac [99]
def Em:KB:=Ac [108]
def Il:KB:=Ac [112,117,115,104]
def lsApp:KB:=Ac [97,112,112,101,110,100]
def lsLists:KB:=Ac [108,105,115,116,115]
def Bm(s:KB):E:=.mk 4 0 s Ai []
def lsNew:E:=.mk 6 0 Bu Ai []
def lsNil:E:=.mk 3 0 sE Ai []
def lsNx:E:=.mk 5 0 Dk Ai [Bm AU]
def lsNe:E:=.mk 15 0 sE Ai [lsNx,lsNil]
def E6(s:KB)(e:E):S:=.mk 1 s Ai [e] Ai [] Ai []
def Hd(s:KB)(e f:E):S:=.mk 2 s Ai [e,f] Ai [] Ai []
def lsWh:S:=.mk 4 sE Ai [lsNe] Ai [E6 AU lsNx] Ai []
def FU:Pr:=⟨Il,Ai,[⟨El,Aj⟩],sE,Ai,[⟨AU,Bu⟩],Ai,[E6 AU lsNew,Hd E5 (Bm AU) (Bm El),Hd Dk (Bm AU) (Bm CM),E6 CM (Bm AU)]⟩
def lsPr2:Pr:=⟨lsApp,Ai,[⟨Em,Bu⟩],sE,Ai,[⟨AU,Bu⟩],Ai,[E6 AU (Bm CM),lsWh,Hd Dk (Bm AU) (Bm Em)]⟩
def lsTy:Ty:=⟨Bu,Ai,[⟨E5,Aj⟩,⟨Dk,Bu⟩]⟩
def Ct:Ds:=⟨lsLists,Ai,[lsTy],Ai,[⟨CM,Bu⟩],Ai,[FU,lsPr2],Ai,[],Ai,[],Ai,[],Ai,[]⟩
def lsX:Value:=.func (.func 39) #[] #[]
def AJ(b:Nat):Value:=.func (.func 40) #[] #[pv b]
def lsS:Value:=.func (.func 41) #[] #[]
def lsP:Value:=.func (.func 42) #[] #[]
def lE(x:E)(v:Value)(A:Mem):Prop:=∃e,v=e.v/\Dj e=x/\E.Ok A e
def lL(xs:List E)(v:Value)(A:Mem):Prop:=∃(s:Sl)(es:List E),v=s.v/\es.map Dj=xs/\Ad A s 4 (es.map E.row)/\∀e∈es,E.Ok A e
def lS(x:S)(v:Value)(A:Mem):Prop:=∃(op:Int)(s:KB)(l:Sl)(es:List E)(k:Sl)(ss:List S),v=(S.mk op s l es k ss ⟨none,0,0⟩ []).v/\Dv (S.mk op s l es k ss ⟨none,0,0⟩ [])=x/\S.Ok A (S.mk op s l es k ss ⟨none,0,0⟩ [])
def lB(xs:List S)(v:Value)(A:Mem):Prop:=∃(s:Sl)(es:List S),v=s.v/\es.map Dv=xs/\Ad A s 5 (es.map S.row)/\∀e∈es,S.Ok A e
def lF(fs:List Fld)(v:Value)(A:Mem):Prop:=∃s:Sl,v=s.v/\Ad A s 2 (fs.map Fld.row)
def lT(v:Value)(A:Mem):Prop:=∃t:Ty,v=.agg t.row.toArray/\tEr t=lsTy/\Ty.Ok A t
def Jj(v:Value)(A:Mem):Prop:=∃(s:Sl)(t:Ty),v=s.v/\tEr t=lsTy/\Ad A s 2 ([t].map Ty.row)/\Ty.Ok A t
def lP(q:Pr)(v:Value)(A:Mem):Prop:=∃p:Pr,v=p.v/\pEr p=q/\Pr.Ok A p
def Jk(v:Value)(A:Mem):Prop:=∃(s:Sl)(p q:Pr),v=s.v/\pEr p=FU/\pEr q=lsPr2/\Ad A s 5 ([p,q].map Pr.row)/\Pr.Ok A p/\Pr.Ok A q
def lD(v:Value)(A:Mem):Prop:=∃d:Ds,v=d.v/\FC Ct d/\Ds.Ok A d
section
variable{A B:Mem}{v:Value}(hs:A.sub B)
include hs
theorem lE.mono{x:E}(h:lE x v A):lE x v B:=by obtain⟨e,a,b,c⟩:=h;exact⟨e,a,b,c.sub hs⟩
theorem lL.mono{x:List E}(h:lL x v A):lL x v B:=by obtain⟨s,es,a,b,c,d⟩:=h;exact⟨s,es,a,b,c.sub hs,λe k=>(d e k).sub hs⟩
theorem lS.mono{x:S}(h:lS x v A):lS x v B:=by obtain⟨o,s,l,es,k,ss,a,b,c⟩:=h;exact⟨o,s,l,es,k,ss,a,b,c.sub hs⟩
theorem lB.mono{x:List S}(h:lB x v A):lB x v B:=by obtain⟨s,es,a,b,c,d⟩:=h;exact⟨s,es,a,b,c.sub hs,λe k=>(d e k).sub hs⟩
theorem lF.mono{f:List Fld}(h:lF f v A):lF f v B:=by obtain⟨s,a,b⟩:=h;exact⟨s,a,b.sub hs⟩
theorem lT.mono(h:lT v A):lT v B:=by obtain⟨t,a,b,c⟩:=h;exact⟨t,a,b,c.sub hs⟩
theorem Jj.mono(h:Jj v A):Jj v B:=by obtain⟨s,t,a,b,c,d⟩:=h;exact⟨s,t,a,b,c.sub hs,d.sub hs⟩
theorem J8{p:Pr}(h:Pr.Ok A p):Pr.Ok B p:=⟨h.params.sub hs,h.locals.sub hs,h.body.sub hs,λs k=>(h.stmts s k).sub hs⟩
theorem lP.mono{q:Pr}(h:lP q v A):lP q v B:=by obtain⟨p,a,b,c⟩:=h;exact⟨p,a,b,J8 hs c⟩
theorem Jk.mono(h:Jk v A):Jk v B:=by obtain⟨s,p,q,a,b,c,d,e,f⟩:=h;exact⟨s,p,q,a,b,c,d.sub hs,J8 hs e,J8 hs f⟩
theorem lD.mono(h:lD v A):lD v B:=by obtain⟨d,a,b,c⟩:=h;exact⟨d,a,b,c.sub hs⟩
end
def Af:Nat->List Nat
 |2=>[0,1]
 |3=>[2]
 |4=>[3]
 |6=>[5]
 |8=>[7]
 |12=>[11]
 |13=>[10,12]
 |16=>[15]
 |18=>[17]
 |19=>[14,16,18]
 |22=>[21]
 |24=>[23]
 |25=>[20,22,24]
 |28=>[27]
 |29=>[26,28]
 |30=>[13,19,25,29]
 |31=>[8,9,30]
 |33=>[32]
 |37=>[36]
 |38=>[35,37]
 |42=>[41]
 |43=>[42]
 |44=>[40,43]
 |46=>[44,45]
 |47=>[39,46]
 |48=>[47]
 |52=>[51]
 |53=>[52]
 |54=>[50,53]
 |55=>[49,54]
 |56=>[55]
 |57=>[48,56]
 |60=>[59]
 |62=>[61]
 |63=>[58,60,62]
 |64=>[38,57,63]
 |65=>[33,34,64]
 |66=>[31,65]
 |67=>[4,6,66]
 |68=>[67]
 |_=>[]
def AI(b1:Nat)(A:Mem):Nat->Value->Prop
 |0,v=>v=.agg #[uS E5,uS Aj]
 |1,v=>v=.agg #[uS Dk,uS Bu]
 |2,v=>lF [⟨E5,Aj⟩,⟨Dk,Bu⟩] v A
 |3,v=>lT v A
 |4,v=>Jj v A
 |5,v=>v=.agg #[uS CM,uS Bu]
 |6,v=>lF [⟨CM,Bu⟩] v A
 |7,v=>v=.agg #[uS El,uS Aj]
 |8,v=>lF [⟨El,Aj⟩] v A
 |9,v=>lF [⟨AU,Bu⟩] v A
 |10,v=>v=lsS
 |11,v=>v=lsX
 |12,v=>lE lsNew v A
 |13,v=>lS (E6 AU lsNew) v A
 |14,v=>v=lsP
 |15,v=>v=(AJ b1)
 |16,v=>lE (Bm AU) v A
 |17,v=>v=(AJ b1)
 |18,v=>lE (Bm El) v A
 |19,v=>lS (Hd E5 (Bm AU) (Bm El)) v A
 |20,v=>v=lsP
 |21,v=>v=(AJ b1)
 |22,v=>lE (Bm AU) v A
 |23,v=>v=(AJ b1)
 |24,v=>lE (Bm CM) v A
 |25,v=>lS (Hd Dk (Bm AU) (Bm CM)) v A
 |26,v=>v=lsS
 |27,v=>v=(AJ b1)
 |28,v=>lE (Bm AU) v A
 |29,v=>lS (E6 CM (Bm AU)) v A
 |30,v=>lB FU.body v A
 |31,v=>lP FU v A
 |32,v=>v=.agg #[uS Em,uS Bu]
 |33,v=>lF [⟨Em,Bu⟩] v A
 |34,v=>lF [⟨AU,Bu⟩] v A
 |35,v=>v=lsS
 |36,v=>v=(AJ b1)
 |37,v=>lE (Bm CM) v A
 |38,v=>lS (E6 AU (Bm CM)) v A
 |39,v=>v=lsX
 |40,v=>v=lsX
 |41,v=>v=(AJ b1)
 |42,v=>lE (Bm AU) v A
 |43,v=>lL [Bm AU] v A
 |44,v=>lE lsNx v A
 |45,v=>lE lsNil v A
 |46,v=>lL [lsNx,lsNil] v A
 |47,v=>lE lsNe v A
 |48,v=>lL [lsNe] v A
 |49,v=>v=lsS
 |50,v=>v=lsX
 |51,v=>v=(AJ b1)
 |52,v=>lE (Bm AU) v A
 |53,v=>lL [Bm AU] v A
 |54,v=>lE lsNx v A
 |55,v=>lS (E6 AU lsNx) v A
 |56,v=>lB [E6 AU lsNx] v A
 |57,v=>lS lsWh v A
 |58,v=>v=lsP
 |59,v=>v=(AJ b1)
 |60,v=>lE (Bm AU) v A
 |61,v=>v=(AJ b1)
 |62,v=>lE (Bm Em) v A
 |63,v=>lS (Hd Dk (Bm AU) (Bm Em)) v A
 |64,v=>lB lsPr2.body v A
 |65,v=>lP lsPr2 v A
 |66,v=>Jk v A
 |67,v=>lD v A
 |_,_=>True
theorem lsQ_mono{b1:Nat}{A B:Mem}(hs:A.sub B):∀(i:Nat)(v:Value),AI b1 A i v->AI b1 B i v
 |0,_,h=>h
 |1,_,h=>h
 |2,_,h=>lF.mono hs h
 |3,_,h=>lT.mono hs h
 |4,_,h=>Jj.mono hs h
 |5,_,h=>h
 |6,_,h=>lF.mono hs h
 |7,_,h=>h
 |8,_,h=>lF.mono hs h
 |9,_,h=>lF.mono hs h
 |10,_,h=>h
 |11,_,h=>h
 |12,_,h=>lE.mono hs h
 |13,_,h=>lS.mono hs h
 |14,_,h=>h
 |15,_,h=>h
 |16,_,h=>lE.mono hs h
 |17,_,h=>h
 |18,_,h=>lE.mono hs h
 |19,_,h=>lS.mono hs h
 |20,_,h=>h
 |21,_,h=>h
 |22,_,h=>lE.mono hs h
 |23,_,h=>h
 |24,_,h=>lE.mono hs h
 |25,_,h=>lS.mono hs h
 |26,_,h=>h
 |27,_,h=>h
 |28,_,h=>lE.mono hs h
 |29,_,h=>lS.mono hs h
 |30,_,h=>lB.mono hs h
 |31,_,h=>lP.mono hs h
 |32,_,h=>h
 |33,_,h=>lF.mono hs h
 |34,_,h=>lF.mono hs h
 |35,_,h=>h
 |36,_,h=>h
 |37,_,h=>lE.mono hs h
 |38,_,h=>lS.mono hs h
 |39,_,h=>h
 |40,_,h=>h
 |41,_,h=>h
 |42,_,h=>lE.mono hs h
 |43,_,h=>lL.mono hs h
 |44,_,h=>lE.mono hs h
 |45,_,h=>lE.mono hs h
 |46,_,h=>lL.mono hs h
 |47,_,h=>lE.mono hs h
 |48,_,h=>lL.mono hs h
 |49,_,h=>h
 |50,_,h=>h
 |51,_,h=>h
 |52,_,h=>lE.mono hs h
 |53,_,h=>lL.mono hs h
 |54,_,h=>lE.mono hs h
 |55,_,h=>lS.mono hs h
 |56,_,h=>lB.mono hs h
 |57,_,h=>lS.mono hs h
 |58,_,h=>h
 |59,_,h=>h
 |60,_,h=>lE.mono hs h
 |61,_,h=>h
 |62,_,h=>lE.mono hs h
 |63,_,h=>lS.mono hs h
 |64,_,h=>lB.mono hs h
 |65,_,h=>lP.mono hs h
 |66,_,h=>Jk.mono hs h
 |67,_,h=>lD.mono hs h
 |_+68,_,_=>trivial
def Aq(b0:Nat)(V:Mem):Mem:=λc=>if c=b0 then none else V c
theorem lsO_ne{b0 c:Nat}{A:Mem}(h:c≠b0):Aq b0 A c=A c:=if_neg h
theorem lsO_no{b0 c:Nat}{A:Mem}(h:c=b0):Aq b0 A c=none:=if_pos h
theorem LD{b0:Nat}{A B:Mem}(h:A.sub B):(Aq b0 A).sub (Aq b0 B):=λc o k=>by
 by_cases e:c=b0;·grind[lsO_no]
 ·rw[lsO_ne e]at k⊢;exact h _ _ k
theorem lsO_le{b0:Nat}{A:Mem}:(Aq b0 A).sub A:=λc o h=>by
 grind[lsO_no,lsO_ne]
def lsBase(b0 b1:Nat)(sl:Sl):List (Nat×Value):=[(0,pv b0),(1,pv b1),(2,AJ b1),(3,lsS),(4,lsP),(5,sl.v)]
structure AP (V:Mem)(b0 b1:Nat)(sl:Sl):Prop where
 z:∃o,V b0=some o
 x:V b1=some (.cells #[lsX] 105 (0,0))
 c:Ad (Aq b0 V) sl 2 ([(⟨AU,Bu⟩:Fld)].map Fld.row)
def AS(i:Nat)(b0 b1:Nat)(sl:Sl)(V1:Mem)(val:Nat->Value):Prop:=∃h,(∀s v,h.lookup s=some v->(lsBase b0 b1 sl).lookup s=some v∨∃j∈Af i,s=9+j/\v=val j)/\Ay xG 77 AH i 1 h [9+i] V1 λvs V2=>∃v,vs=[v]/\V1.sub V2/\AI b1 (Aq b0 V2) i v
theorem BM{val:Nat->Value}:∀{l:List Nat}{s:Nat}{v:Value},(l.map λj=>(9+j,val j)).lookup s=some v->∃j∈l,s=9+j/\v=val j
 |[],_,_,h=>by cases h
 |j::l,s,v,h=>by
  rw[zG,zb]at h;split at h;·simp_all
  ·obtain⟨k,g,h1⟩:=BM h;grind
theorem Dc{k s:Nat}{x v:Value}(h:[(k,x)].lookup s=some v):s=k/\v=x:=by
 grind
theorem lsIn0{s:Nat}{v:Value}{Q:Prop}(h:([]:List (Nat×Value)).lookup s=some v):Q:=by cases h
section
variable{V V1:Mem}{b0 b1:Nat}{sl:Sl}{val:Nat->Value}
theorem DK(g:AP V b0 b1 sl)(hs:V.sub V1){b:Nat}(k:V1 b=none)(o:Obj):Aq b0 (V1.set b o) b=some o:=by
 have h:b≠b0:=λe=>by
  obtain⟨o,f⟩:=g.z;rw[e,hs _ _ f]at k;cases k
 rw[lsO_ne h];exact Mem.set_same _ _ _
theorem CW{b:Nat}(h:V1 b=none)(o:Obj):(Aq b0 V1).sub (Aq b0 (V1.set b o)):=LD (Mem.sub_new h o)
theorem J9{op:Int}{s:KB}{l:Sl}:PP 39 [.int .i64 op,.string s,l.v] V (.agg #[.int .i64 op,.int .i64 0,.string s,l.v]):=by
 refine PI ?_;exact⟨rfl,rfl⟩
theorem GG{s:KB}(h:V b1=some (.cells #[lsX] 105 (0,0))):PP 40 [.string s,pv b1] V (Bm s).v:=by
 refine PJ ?_;exact⟨lsX,rfl,Am h 0 1 (by simp),39,#[],#[],rfl,uF,(J9 (op:=4) (s:=s) (l:=Ai)).callv (first:=[]) (caps:=[]) ⟨_,_,_,_,rfl,rfl,rfl⟩⟩
theorem EB{A:Mem}{n:Nat}:Ad A ⟨none,0,0⟩ n []:=Ad.nil
theorem lsEk{A:Mem}{op:Int}{s:KB}(h:yq.min<=op/\op<=yq.max):E.Ok A (.mk op 0 s ⟨none,0,0⟩ []):=.mk EB (λ_ h=>by simp at h) h (by decide)
end
section
variable{V V1:Mem}{b0 b1:Nat}{sl:Sl}{val:Nat->Value}
theorem RD(k:AP V b0 b1 sl)(hs:V.sub V1)(hv:∀j∈Af 0,AI b1 (Aq b0 V1) j (val j)):AS 0 b0 b1 sl V1 val:=by
 have _:=k.z;have _:=hs;have _:=hv;exact⟨[],λ_ _ h=>lsIn0 h,s11o0 ⟨_,rfl,.agg #[uS E5,uS Aj],rfl,Mem.sub.refl _,rfl⟩⟩
theorem M9(k:AP V b0 b1 sl)(hs:V.sub V1)(hv:∀j∈Af 1,AI b1 (Aq b0 V1) j (val j)):AS 1 b0 b1 sl V1 val:=by
 have _:=k.z;have _:=hs;have _:=hv;exact⟨[],λ_ _ h=>lsIn0 h,s11o1 ⟨_,rfl,.agg #[uS Dk,uS Bu],rfl,Mem.sub.refl _,rfl⟩⟩
theorem JQ(g:AP V b0 b1 sl)(hs:V.sub V1)(hv:∀j∈Af 2,AI b1 (Aq b0 V1) j (val j)):AS 2 b0 b1 sl V1 val:=by
 have f:(val 0)=.agg #[uS E5,uS Aj]:=hv 0 (by simp[Af]);have h1:(val 1)=.agg #[uS Dk,uS Bu]:=hv 1 (by simp[Af]);have eq:[(9,.agg #[uS E5,uS Aj]),(10,.agg #[uS Dk,uS Bu])]=(Af 2).map λj=>(9+j,val j):=by simp[Af,f,h1]
 refine⟨_,λs v h=>.inr (BM (by rw[<-eq];exact h)),s11o2 (a:=E5) (b:=Aj) (c:=Dk) (d:=Bu) ?_⟩;unfold w11o2;intro b k;exact⟨_,rfl,_,rfl,Mem.sub_new k _,⟨some ⟨b,0,none⟩,2,2⟩,rfl,Ad.cells (xs:=[⟨E5,Aj⟩,⟨Dk,Bu⟩]) (row:=Fld.row) (DK g hs k _) rfl (λ_=>rfl) rfl (by simp)⟩
theorem I5(f:AP V b0 b1 sl)(hs:V.sub V1)(hv:∀j∈Af 3,AI b1 (Aq b0 V1) j (val j)):AS 3 b0 b1 sl V1 val:=by
 have h2:lF [⟨E5,Aj⟩,⟨Dk,Bu⟩] (val 2) (Aq b0 V1):=hv 2 (by simp[Af]);obtain⟨l,k,g⟩:=h2;have eq:[(11,l.v)]=(Af 3).map λj=>(9+j,val j):=by simp[Af,k]
 refine⟨_,λs v h=>.inr (BM (by rw[<-eq];exact h)),s11o3 (a:=l) ⟨_,rfl,_,rfl,Mem.sub.refl _,⟨Bu,l,[⟨E5,Aj⟩,⟨Dk,Bu⟩]⟩,rfl,rfl,⟨g⟩⟩⟩
theorem RF(g:AP V b0 b1 sl)(hs:V.sub V1)(hv:∀j∈Af 4,AI b1 (Aq b0 V1) j (val j)):AS 4 b0 b1 sl V1 val:=by
 have h3:lT (val 3) (Aq b0 V1):=hv 3 (by simp[Af]);obtain⟨x,f,t,u⟩:=h3;have eq:[(12,.agg x.row.toArray)]=(Af 4).map λj=>(9+j,val j):=by simp[Af,f]
 refine⟨_,λs v h=>.inr (BM (by rw[<-eq];exact h)),s11o4 (a:=x.name) (b:=x.fs) ?_⟩;unfold w11o4;intro b k;exact⟨_,rfl,_,rfl,Mem.sub_new k _,⟨some ⟨b,0,none⟩,1,1⟩,x,rfl,t,Ad.cells (xs:=[x]) (row:=Ty.row) (DK g hs k _) rfl (λ_=>rfl) rfl (by simp),u.sub (CW k _)⟩
theorem G9(k:AP V b0 b1 sl)(hs:V.sub V1)(hv:∀j∈Af 5,AI b1 (Aq b0 V1) j (val j)):AS 5 b0 b1 sl V1 val:=by
 have _:=k.z;have _:=hs;have _:=hv;exact⟨[],λ_ _ h=>lsIn0 h,s11o5 ⟨_,rfl,.agg #[uS CM,uS Bu],rfl,Mem.sub.refl _,rfl⟩⟩
theorem RG(g:AP V b0 b1 sl)(hs:V.sub V1)(hv:∀j∈Af 6,AI b1 (Aq b0 V1) j (val j)):AS 6 b0 b1 sl V1 val:=by
 have f:(val 5)=.agg #[uS CM,uS Bu]:=hv 5 (by simp[Af]);have eq:[(14,.agg #[uS CM,uS Bu])]=(Af 6).map λj=>(9+j,val j):=by simp[Af,f]
 refine⟨_,λs v h=>.inr (BM (by rw[<-eq];exact h)),s11o6 (a:=CM) (b:=Bu) ?_⟩;unfold w11o6;intro b k;exact⟨_,rfl,_,rfl,Mem.sub_new k _,⟨some ⟨b,0,none⟩,1,1⟩,rfl,Ad.cells (xs:=[⟨CM,Bu⟩]) (row:=Fld.row) (DK g hs k _) rfl (λ_=>rfl) rfl (by simp)⟩
theorem G8(k:AP V b0 b1 sl)(hs:V.sub V1)(hv:∀j∈Af 7,AI b1 (Aq b0 V1) j (val j)):AS 7 b0 b1 sl V1 val:=by
 have _:=k.z;have _:=hs;have _:=hv;exact⟨[],λ_ _ h=>lsIn0 h,s11o7 ⟨_,rfl,.agg #[uS El,uS Aj],rfl,Mem.sub.refl _,rfl⟩⟩
theorem RH(g:AP V b0 b1 sl)(hs:V.sub V1)(hv:∀j∈Af 8,AI b1 (Aq b0 V1) j (val j)):AS 8 b0 b1 sl V1 val:=by
 have f:(val 7)=.agg #[uS El,uS Aj]:=hv 7 (by simp[Af]);have eq:[(16,.agg #[uS El,uS Aj])]=(Af 8).map λj=>(9+j,val j):=by simp[Af,f]
 refine⟨_,λs v h=>.inr (BM (by rw[<-eq];exact h)),s11o8 (a:=El) (b:=Aj) ?_⟩;unfold w11o8;intro b k;exact⟨_,rfl,_,rfl,Mem.sub_new k _,⟨some ⟨b,0,none⟩,1,1⟩,rfl,Ad.cells (xs:=[⟨El,Aj⟩]) (row:=Fld.row) (DK g hs k _) rfl (λ_=>rfl) rfl (by simp)⟩
theorem RJ(k:AP V b0 b1 sl)(hs:V.sub V1)(hv:∀j∈Af 9,AI b1 (Aq b0 V1) j (val j)):AS 9 b0 b1 sl V1 val:=by
 have _:=k.z;have _:=hs;have _:=hv;exact⟨[(5,sl.v)],λs v h=>.inl (by obtain⟨rfl,rfl⟩:=Dc h;rfl),s11o9 (a:=sl) ⟨_,rfl,sl.v,rfl,Mem.sub.refl _,sl,rfl,k.c.sub (LD hs)⟩⟩
theorem ls10(k:AP V b0 b1 sl)(hs:V.sub V1)(hv:∀j∈Af 10,AI b1 (Aq b0 V1) j (val j)):AS 10 b0 b1 sl V1 val:=by
 have _:=k.z;have _:=hs;have _:=hv;exact⟨[(3,lsS)],λs v h=>.inl (by obtain⟨rfl,rfl⟩:=Dc h;rfl),s11o10 (a:=lsS) ⟨_,rfl,lsS,rfl,Mem.sub.refl _,rfl⟩⟩
theorem ls11(k:AP V b0 b1 sl)(hs:V.sub V1)(hv:∀j∈Af 11,AI b1 (Aq b0 V1) j (val j)):AS 11 b0 b1 sl V1 val:=by
 have _:=k.z;have _:=hs;have _:=hv;exact⟨[(1,pv b1)],λs v h=>.inl (by obtain⟨rfl,rfl⟩:=Dc h;rfl),s11o11 (a:=some ⟨b1,0,none⟩) ⟨lsX,rfl,Am (hs _ _ k.x) 0 1 (by simp),_,rfl,lsX,rfl,Mem.sub.refl _,rfl⟩⟩
theorem ls12(g:AP V b0 b1 sl)(hs:V.sub V1)(hv:∀j∈Af 12,AI b1 (Aq b0 V1) j (val j)):AS 12 b0 b1 sl V1 val:=by
 have k:(val 11)=lsX:=hv 11 (by simp[Af]);have eq:[(20,lsX)]=(Af 12).map λj=>(9+j,val j):=by simp[Af,k]
 refine⟨_,λs v h=>.inr (BM (by rw[<-eq];exact h)),s11o12 (a:=lsX) ?_⟩;unfold w11o12;exact⟨39,#[],#[],rfl,uF,(J9 (op:=6) (s:=Bu) (l:=Ai)).callv (first:=[]) (caps:=[]) ⟨_,_,_,_,rfl,_,rfl,_,rfl,Mem.sub.refl _,.mk 6 0 Bu ⟨none,0,0⟩ [],rfl,rfl,lsEk (by decide)⟩⟩
theorem ls13(u:AP V b0 b1 sl)(hs:V.sub V1)(hv:∀j∈Af 13,AI b1 (Aq b0 V1) j (val j)):AS 13 b0 b1 sl V1 val:=by
 have k:(val 10)=lsS:=hv 10 (by simp[Af]);have f:lE lsNew (val 12) (Aq b0 V1):=hv 12 (by simp[Af]);obtain⟨e,w,y,i⟩:=f;have eq:[(19,lsS),(21,e.v)]=(Af 13).map λj=>(9+j,val j):=by simp[Af,k,w]
 refine⟨_,λs v h=>.inr (BM (by rw[<-eq];exact h)),s11o13 (a:=lsS) (b:=e.op) (c:=e.n) (d:=e.s) (g:=e.l) ?_⟩;unfold w11o13;refine⟨41,#[],#[],rfl,uG,Kx ?_⟩;intro b t;exact⟨_,_,_,_,_,rfl,_,rfl,_,rfl,Mem.sub_new t _,1,AU,⟨some ⟨b,0,none⟩,1,1⟩,[e],⟨none,0,0⟩,[],rfl,by unfold Dv;rw[ET,vd,y];rfl,.mk (Ad.cells (xs:=[e]) (row:=E.row) (DK u hs t _) rfl (λ_=>rfl) rfl (by simp)) (λx r=>by rw[zO.1 r];exact i.sub (CW t _)) EB (λ_ h=>by simp at h) EB (λ_ h=>by simp at h) (by decide)⟩
theorem ls14(k:AP V b0 b1 sl)(hs:V.sub V1)(hv:∀j∈Af 14,AI b1 (Aq b0 V1) j (val j)):AS 14 b0 b1 sl V1 val:=by
 have _:=k.z;have _:=hs;have _:=hv;exact⟨[(4,lsP)],λs v h=>.inl (by obtain⟨rfl,rfl⟩:=Dc h;rfl),s11o14 (a:=lsP) ⟨_,rfl,lsP,rfl,Mem.sub.refl _,rfl⟩⟩
theorem ls15(k:AP V b0 b1 sl)(hs:V.sub V1)(hv:∀j∈Af 15,AI b1 (Aq b0 V1) j (val j)):AS 15 b0 b1 sl V1 val:=by
 have _:=k.z;have _:=hs;have _:=hv;exact⟨[(2,(AJ b1))],λs v h=>.inl (by obtain⟨rfl,rfl⟩:=Dc h;rfl),s11o15 (a:=(AJ b1)) ⟨_,rfl,(AJ b1),rfl,Mem.sub.refl _,rfl⟩⟩
theorem ls16(g:AP V b0 b1 sl)(hs:V.sub V1)(hv:∀j∈Af 16,AI b1 (Aq b0 V1) j (val j)):AS 16 b0 b1 sl V1 val:=by
 have k:(val 15)=(AJ b1):=hv 15 (by simp[Af]);have eq:[(24,AJ b1)]=(Af 16).map λj=>(9+j,val j):=by simp[Af,k]
 refine⟨_,λs v h=>.inr (BM (by rw[<-eq];exact h)),s11o16 (a:=AJ b1) ?_⟩;unfold w11o16;exact⟨40,#[],#[pv b1],rfl,uH,(GG (s:=AU) (hs _ _ g.x)).callv (first:=[]) (caps:=[pv b1]) ⟨_,_,_,_,rfl,_,rfl,_,rfl,Mem.sub.refl _,.mk 4 0 AU ⟨none,0,0⟩ [],rfl,rfl,lsEk (by decide)⟩⟩
theorem ls17(k:AP V b0 b1 sl)(hs:V.sub V1)(hv:∀j∈Af 17,AI b1 (Aq b0 V1) j (val j)):AS 17 b0 b1 sl V1 val:=by
 have _:=k.z;have _:=hs;have _:=hv;exact⟨[(2,(AJ b1))],λs v h=>.inl (by obtain⟨rfl,rfl⟩:=Dc h;rfl),s11o17 (a:=(AJ b1)) ⟨_,rfl,(AJ b1),rfl,Mem.sub.refl _,rfl⟩⟩
theorem ls18(g:AP V b0 b1 sl)(hs:V.sub V1)(hv:∀j∈Af 18,AI b1 (Aq b0 V1) j (val j)):AS 18 b0 b1 sl V1 val:=by
 have k:(val 17)=(AJ b1):=hv 17 (by simp[Af]);have eq:[(26,AJ b1)]=(Af 18).map λj=>(9+j,val j):=by simp[Af,k]
 refine⟨_,λs v h=>.inr (BM (by rw[<-eq];exact h)),s11o18 (a:=AJ b1) ?_⟩;unfold w11o18;exact⟨40,#[],#[pv b1],rfl,uH,(GG (s:=El) (hs _ _ g.x)).callv (first:=[]) (caps:=[pv b1]) ⟨_,_,_,_,rfl,_,rfl,_,rfl,Mem.sub.refl _,.mk 4 0 El ⟨none,0,0⟩ [],rfl,rfl,lsEk (by decide)⟩⟩
theorem ls19(q:AP V b0 b1 sl)(hs:V.sub V1)(hv:∀j∈Af 19,AI b1 (Aq b0 V1) j (val j)):AS 19 b0 b1 sl V1 val:=by
 have u:(val 14)=lsP:=hv 14 (by simp[Af]);have w:lE (Bm AU) (val 16) (Aq b0 V1):=hv 16 (by simp[Af]);have y:lE (Bm El) (val 18) (Aq b0 V1):=hv 18 (by simp[Af]);obtain⟨e,H,J,G⟩:=w;obtain⟨f,N,f2,f3⟩:=y;have eq:[(23,lsP),(25,e.v),(27,f.v)]=(Af 19).map λj=>(9+j,val j):=by simp[Af,u,H,N]
 refine⟨_,λs v h=>.inr (BM (by rw[<-eq];exact h)),s11o19 (a:=lsP) (b:=e.op) (c:=e.n) (d:=e.s) (g:=e.l) (i:=f.op) (j:=f.n) (k:=f.s) (l:=f.l) ?_⟩;unfold w11o19;refine⟨42,#[],#[],rfl,uJ,Me ?_⟩;intro b t;exact⟨_,_,_,_,_,rfl,_,rfl,_,rfl,Mem.sub_new t _,2,E5,⟨some ⟨b,0,none⟩,2,2⟩,[e,f],⟨none,0,0⟩,[],rfl,by unfold Dv;rw[ET,zG,vd,J,f2];rfl,.mk (Ad.cells (xs:=[e,f]) (row:=E.row) (DK q hs t _) rfl (λ_=>rfl) rfl (by simp)) (λx r=>by
  rcases yE.1 r with rfl|r;·exact G.sub (CW t _)
  ·rw[zO.1 r];exact f3.sub (CW t _)) EB (λ_ h=>by simp at h) EB (λ_ h=>by simp at h) (by decide)⟩
theorem ls20(k:AP V b0 b1 sl)(hs:V.sub V1)(hv:∀j∈Af 20,AI b1 (Aq b0 V1) j (val j)):AS 20 b0 b1 sl V1 val:=by
 have _:=k.z;have _:=hs;have _:=hv;exact⟨[(4,lsP)],λs v h=>.inl (by obtain⟨rfl,rfl⟩:=Dc h;rfl),s11o20 (a:=lsP) ⟨_,rfl,lsP,rfl,Mem.sub.refl _,rfl⟩⟩
theorem ls21(k:AP V b0 b1 sl)(hs:V.sub V1)(hv:∀j∈Af 21,AI b1 (Aq b0 V1) j (val j)):AS 21 b0 b1 sl V1 val:=by
 have _:=k.z;have _:=hs;have _:=hv;exact⟨[(2,(AJ b1))],λs v h=>.inl (by obtain⟨rfl,rfl⟩:=Dc h;rfl),s11o21 (a:=(AJ b1)) ⟨_,rfl,(AJ b1),rfl,Mem.sub.refl _,rfl⟩⟩
theorem ls22(g:AP V b0 b1 sl)(hs:V.sub V1)(hv:∀j∈Af 22,AI b1 (Aq b0 V1) j (val j)):AS 22 b0 b1 sl V1 val:=by
 have k:(val 21)=(AJ b1):=hv 21 (by simp[Af]);have eq:[(30,AJ b1)]=(Af 22).map λj=>(9+j,val j):=by simp[Af,k]
 refine⟨_,λs v h=>.inr (BM (by rw[<-eq];exact h)),s11o22 (a:=AJ b1) ?_⟩;unfold w11o22;exact⟨40,#[],#[pv b1],rfl,uH,(GG (s:=AU) (hs _ _ g.x)).callv (first:=[]) (caps:=[pv b1]) ⟨_,_,_,_,rfl,_,rfl,_,rfl,Mem.sub.refl _,.mk 4 0 AU ⟨none,0,0⟩ [],rfl,rfl,lsEk (by decide)⟩⟩
theorem ls23(k:AP V b0 b1 sl)(hs:V.sub V1)(hv:∀j∈Af 23,AI b1 (Aq b0 V1) j (val j)):AS 23 b0 b1 sl V1 val:=by
 have _:=k.z;have _:=hs;have _:=hv;exact⟨[(2,(AJ b1))],λs v h=>.inl (by obtain⟨rfl,rfl⟩:=Dc h;rfl),s11o23 (a:=(AJ b1)) ⟨_,rfl,(AJ b1),rfl,Mem.sub.refl _,rfl⟩⟩
theorem ls24(g:AP V b0 b1 sl)(hs:V.sub V1)(hv:∀j∈Af 24,AI b1 (Aq b0 V1) j (val j)):AS 24 b0 b1 sl V1 val:=by
 have k:(val 23)=(AJ b1):=hv 23 (by simp[Af]);have eq:[(32,AJ b1)]=(Af 24).map λj=>(9+j,val j):=by simp[Af,k]
 refine⟨_,λs v h=>.inr (BM (by rw[<-eq];exact h)),s11o24 (a:=AJ b1) ?_⟩;unfold w11o24;exact⟨40,#[],#[pv b1],rfl,uH,(GG (s:=CM) (hs _ _ g.x)).callv (first:=[]) (caps:=[pv b1]) ⟨_,_,_,_,rfl,_,rfl,_,rfl,Mem.sub.refl _,.mk 4 0 CM ⟨none,0,0⟩ [],rfl,rfl,lsEk (by decide)⟩⟩
theorem ls25(q:AP V b0 b1 sl)(hs:V.sub V1)(hv:∀j∈Af 25,AI b1 (Aq b0 V1) j (val j)):AS 25 b0 b1 sl V1 val:=by
 have u:(val 20)=lsP:=hv 20 (by simp[Af]);have w:lE (Bm AU) (val 22) (Aq b0 V1):=hv 22 (by simp[Af]);have y:lE (Bm CM) (val 24) (Aq b0 V1):=hv 24 (by simp[Af]);obtain⟨e,H,J,G⟩:=w;obtain⟨f,N,f2,f3⟩:=y;have eq:[(29,lsP),(31,e.v),(33,f.v)]=(Af 25).map λj=>(9+j,val j):=by simp[Af,u,H,N]
 refine⟨_,λs v h=>.inr (BM (by rw[<-eq];exact h)),s11o25 (a:=lsP) (b:=e.op) (c:=e.n) (d:=e.s) (g:=e.l) (i:=f.op) (j:=f.n) (k:=f.s) (l:=f.l) ?_⟩;unfold w11o25;refine⟨42,#[],#[],rfl,uJ,Me ?_⟩;intro b t;exact⟨_,_,_,_,_,rfl,_,rfl,_,rfl,Mem.sub_new t _,2,Dk,⟨some ⟨b,0,none⟩,2,2⟩,[e,f],⟨none,0,0⟩,[],rfl,by unfold Dv;rw[ET,zG,vd,J,f2];rfl,.mk (Ad.cells (xs:=[e,f]) (row:=E.row) (DK q hs t _) rfl (λ_=>rfl) rfl (by simp)) (λx r=>by
  rcases yE.1 r with rfl|r;·exact G.sub (CW t _)
  ·rw[zO.1 r];exact f3.sub (CW t _)) EB (λ_ h=>by simp at h) EB (λ_ h=>by simp at h) (by decide)⟩
theorem ls26(k:AP V b0 b1 sl)(hs:V.sub V1)(hv:∀j∈Af 26,AI b1 (Aq b0 V1) j (val j)):AS 26 b0 b1 sl V1 val:=by
 have _:=k.z;have _:=hs;have _:=hv;exact⟨[(3,lsS)],λs v h=>.inl (by obtain⟨rfl,rfl⟩:=Dc h;rfl),s11o26 (a:=lsS) ⟨_,rfl,lsS,rfl,Mem.sub.refl _,rfl⟩⟩
theorem ls27(k:AP V b0 b1 sl)(hs:V.sub V1)(hv:∀j∈Af 27,AI b1 (Aq b0 V1) j (val j)):AS 27 b0 b1 sl V1 val:=by
 have _:=k.z;have _:=hs;have _:=hv;exact⟨[(2,(AJ b1))],λs v h=>.inl (by obtain⟨rfl,rfl⟩:=Dc h;rfl),s11o27 (a:=(AJ b1)) ⟨_,rfl,(AJ b1),rfl,Mem.sub.refl _,rfl⟩⟩
theorem ls28(g:AP V b0 b1 sl)(hs:V.sub V1)(hv:∀j∈Af 28,AI b1 (Aq b0 V1) j (val j)):AS 28 b0 b1 sl V1 val:=by
 have k:(val 27)=(AJ b1):=hv 27 (by simp[Af]);have eq:[(36,AJ b1)]=(Af 28).map λj=>(9+j,val j):=by simp[Af,k]
 refine⟨_,λs v h=>.inr (BM (by rw[<-eq];exact h)),s11o28 (a:=AJ b1) ?_⟩;unfold w11o28;exact⟨40,#[],#[pv b1],rfl,uH,(GG (s:=AU) (hs _ _ g.x)).callv (first:=[]) (caps:=[pv b1]) ⟨_,_,_,_,rfl,_,rfl,_,rfl,Mem.sub.refl _,.mk 4 0 AU ⟨none,0,0⟩ [],rfl,rfl,lsEk (by decide)⟩⟩
theorem ls29(u:AP V b0 b1 sl)(hs:V.sub V1)(hv:∀j∈Af 29,AI b1 (Aq b0 V1) j (val j)):AS 29 b0 b1 sl V1 val:=by
 have k:(val 26)=lsS:=hv 26 (by simp[Af]);have f:lE (Bm AU) (val 28) (Aq b0 V1):=hv 28 (by simp[Af]);obtain⟨e,w,y,i⟩:=f;have eq:[(35,lsS),(37,e.v)]=(Af 29).map λj=>(9+j,val j):=by simp[Af,k,w]
 refine⟨_,λs v h=>.inr (BM (by rw[<-eq];exact h)),s11o29 (a:=lsS) (b:=e.op) (c:=e.n) (d:=e.s) (g:=e.l) ?_⟩;unfold w11o29;refine⟨41,#[],#[],rfl,uG,Kx ?_⟩;intro b t;exact⟨_,_,_,_,_,rfl,_,rfl,_,rfl,Mem.sub_new t _,1,CM,⟨some ⟨b,0,none⟩,1,1⟩,[e],⟨none,0,0⟩,[],rfl,by unfold Dv;rw[ET,vd,y];rfl,.mk (Ad.cells (xs:=[e]) (row:=E.row) (DK u hs t _) rfl (λ_=>rfl) rfl (by simp)) (λx r=>by rw[zO.1 r];exact i.sub (CW t _)) EB (λ_ h=>by simp at h) EB (λ_ h=>by simp at h) (by decide)⟩
theorem ls30(hB:AP V b0 b1 sl)(hs:V.sub V1)(hv:∀j∈Af 30,AI b1 (Aq b0 V1) j (val j)):AS 30 b0 b1 sl V1 val:=by
 have h13:lS (E6 AU lsNew) (val 13) (Aq b0 V1):=hv 13 (by simp[Af]);have h19:lS (Hd E5 (Bm AU) (Bm El)) (val 19) (Aq b0 V1):=hv 19 (by simp[Af]);have h25:lS (Hd Dk (Bm AU) (Bm CM)) (val 25) (Aq b0 V1):=hv 25 (by simp[Af]);have h29:lS (E6 CM (Bm AU)) (val 29) (Aq b0 V1):=hv 29 (by simp[Af]);obtain⟨Z,Y,W,f,k0,t,p0,q0,r0⟩:=h13;obtain⟨Q,P,O,w,I,n,p1,q1,r1⟩:=h19;obtain⟨M,L,R,e,X,H,p2,q2,r2⟩:=h25;obtain⟨E,K,T,J,U,G,p3,q3,r3⟩:=h29;have eq:[(22,(S.mk Z Y W f k0 t ⟨none,0,0⟩ []).v),(28,(S.mk Q P O w I n ⟨none,0,0⟩ []).v),(34,(S.mk M L R e X H ⟨none,0,0⟩ []).v),(38,(S.mk E K T J U G ⟨none,0,0⟩ []).v)]=(Af 30).map λj=>(9+j,val j):=by simp[Af,p0,p1,p2,p3]
 refine⟨_,λs v h=>.inr (BM (by rw[<-eq];exact h)),s11o30 (a:=Z) (b:=Y) (c:=W) (d:=k0) (g:=⟨none,0,0⟩) (i:=Q) (j:=P) (k:=O) (l:=I) (o:=⟨none,0,0⟩) (p:=M) (q:=L) (r:=R) (s:=X) (u:=⟨none,0,0⟩) (y:=E) (z:=K) (A:=T) (B:=U) (C:=⟨none,0,0⟩) ?_⟩;unfold w11o30;intro b N;exact⟨_,rfl,_,rfl,Mem.sub_new N _,⟨some ⟨b,0,none⟩,4,4⟩,[S.mk Z Y W f k0 t ⟨none,0,0⟩ [],S.mk Q P O w I n ⟨none,0,0⟩ [],S.mk M L R e X H ⟨none,0,0⟩ [],S.mk E K T J U G ⟨none,0,0⟩ []],rfl,by simp only[zG,xp,q0,q1,q2,q3];rfl,Ad.cells (xs:=[S.mk Z Y W f k0 t ⟨none,0,0⟩ [],S.mk Q P O w I n ⟨none,0,0⟩ [],S.mk M L R e X H ⟨none,0,0⟩ [],S.mk E K T J U G ⟨none,0,0⟩ []]) (row:=S.row) (DK hB hs N _) rfl (λx=>by cases x;rfl) rfl (by simp),λx hx=>by
  simp only[yE,xE,or_false]at hx;rcases hx with rfl|rfl|rfl|rfl;·exact r0.sub (CW N _)
  ·exact r1.sub (CW N _)
  ·exact r2.sub (CW N _)
  ·exact r3.sub (CW N _)⟩
theorem ls31(H:AP V b0 b1 sl)(hs:V.sub V1)(hv:∀j∈Af 31,AI b1 (Aq b0 V1) j (val j)):AS 31 b0 b1 sl V1 val:=by
 have f:lF [⟨El,Aj⟩] (val 8) (Aq b0 V1):=hv 8 (by simp[Af]);have t:lF [⟨AU,Bu⟩] (val 9) (Aq b0 V1):=hv 9 (by simp[Af]);have g:lB FU.body (val 30) (Aq b0 V1):=hv 30 (by simp[Af]);obtain⟨l,u,w⟩:=f;obtain⟨m,y,i⟩:=t;obtain⟨k,ss,n,r,q,e⟩:=g;have eq:[(17,l.v),(18,m.v),(39,k.v)]=(Af 31).map λj=>(9+j,val j):=by simp[Af,u,y,n]
 refine⟨_,λs v h=>.inr (BM (by rw[<-eq];exact h)),s11o31 (a:=l) (b:=m) (c:=k) ⟨_,rfl,_,rfl,Mem.sub.refl _,⟨Il,l,[⟨El,Aj⟩],sE,m,[⟨AU,Bu⟩],k,ss⟩,rfl,by unfold pEr;rw[JY,r];rfl,⟨w,i,q,e⟩⟩⟩
theorem ls32(k:AP V b0 b1 sl)(hs:V.sub V1)(hv:∀j∈Af 32,AI b1 (Aq b0 V1) j (val j)):AS 32 b0 b1 sl V1 val:=by
 have _:=k.z;have _:=hs;have _:=hv;exact⟨[],λ_ _ h=>lsIn0 h,s11o32 ⟨_,rfl,.agg #[uS Em,uS Bu],rfl,Mem.sub.refl _,rfl⟩⟩
theorem ls33(f:AP V b0 b1 sl)(hs:V.sub V1)(hv:∀j∈Af 33,AI b1 (Aq b0 V1) j (val j)):AS 33 b0 b1 sl V1 val:=by
 have k:(val 32)=.agg #[uS Em,uS Bu]:=hv 32 (by simp[Af]);have eq:[(41,.agg #[uS Em,uS Bu])]=(Af 33).map λj=>(9+j,val j):=by simp[Af,k]
 refine⟨_,λs v h=>.inr (BM (by rw[<-eq];exact h)),s11o33 (a:=Em) (b:=Bu) ?_⟩;unfold w11o33;intro b g;exact⟨_,rfl,_,rfl,Mem.sub_new g _,⟨some ⟨b,0,none⟩,1,1⟩,rfl,Ad.cells (xs:=[⟨Em,Bu⟩]) (row:=Fld.row) (DK f hs g _) rfl (λ_=>rfl) rfl (by simp)⟩
theorem ls34(k:AP V b0 b1 sl)(hs:V.sub V1)(hv:∀j∈Af 34,AI b1 (Aq b0 V1) j (val j)):AS 34 b0 b1 sl V1 val:=by
 have _:=k.z;have _:=hs;have _:=hv;exact⟨[(5,sl.v)],λs v h=>.inl (by obtain⟨rfl,rfl⟩:=Dc h;rfl),s11o34 (a:=sl) ⟨_,rfl,sl.v,rfl,Mem.sub.refl _,sl,rfl,k.c.sub (LD hs)⟩⟩
theorem ls35(k:AP V b0 b1 sl)(hs:V.sub V1)(hv:∀j∈Af 35,AI b1 (Aq b0 V1) j (val j)):AS 35 b0 b1 sl V1 val:=by
 have _:=k.z;have _:=hs;have _:=hv;exact⟨[(3,lsS)],λs v h=>.inl (by obtain⟨rfl,rfl⟩:=Dc h;rfl),s11o35 (a:=lsS) ⟨_,rfl,lsS,rfl,Mem.sub.refl _,rfl⟩⟩
theorem ls36(k:AP V b0 b1 sl)(hs:V.sub V1)(hv:∀j∈Af 36,AI b1 (Aq b0 V1) j (val j)):AS 36 b0 b1 sl V1 val:=by
 have _:=k.z;have _:=hs;have _:=hv;exact⟨[(2,(AJ b1))],λs v h=>.inl (by obtain⟨rfl,rfl⟩:=Dc h;rfl),s11o36 (a:=(AJ b1)) ⟨_,rfl,(AJ b1),rfl,Mem.sub.refl _,rfl⟩⟩
theorem ls37(g:AP V b0 b1 sl)(hs:V.sub V1)(hv:∀j∈Af 37,AI b1 (Aq b0 V1) j (val j)):AS 37 b0 b1 sl V1 val:=by
 have k:(val 36)=(AJ b1):=hv 36 (by simp[Af]);have eq:[(45,AJ b1)]=(Af 37).map λj=>(9+j,val j):=by simp[Af,k]
 refine⟨_,λs v h=>.inr (BM (by rw[<-eq];exact h)),s11o37 (a:=AJ b1) ?_⟩;unfold w11o37;exact⟨40,#[],#[pv b1],rfl,uH,(GG (s:=CM) (hs _ _ g.x)).callv (first:=[]) (caps:=[pv b1]) ⟨_,_,_,_,rfl,_,rfl,_,rfl,Mem.sub.refl _,.mk 4 0 CM ⟨none,0,0⟩ [],rfl,rfl,lsEk (by decide)⟩⟩
theorem ls38(u:AP V b0 b1 sl)(hs:V.sub V1)(hv:∀j∈Af 38,AI b1 (Aq b0 V1) j (val j)):AS 38 b0 b1 sl V1 val:=by
 have k:(val 35)=lsS:=hv 35 (by simp[Af]);have f:lE (Bm CM) (val 37) (Aq b0 V1):=hv 37 (by simp[Af]);obtain⟨e,w,y,i⟩:=f;have eq:[(44,lsS),(46,e.v)]=(Af 38).map λj=>(9+j,val j):=by simp[Af,k,w]
 refine⟨_,λs v h=>.inr (BM (by rw[<-eq];exact h)),s11o38 (a:=lsS) (b:=e.op) (c:=e.n) (d:=e.s) (g:=e.l) ?_⟩;unfold w11o38;refine⟨41,#[],#[],rfl,uG,Kx ?_⟩;intro b t;exact⟨_,_,_,_,_,rfl,_,rfl,_,rfl,Mem.sub_new t _,1,AU,⟨some ⟨b,0,none⟩,1,1⟩,[e],⟨none,0,0⟩,[],rfl,by unfold Dv;rw[ET,vd,y];rfl,.mk (Ad.cells (xs:=[e]) (row:=E.row) (DK u hs t _) rfl (λ_=>rfl) rfl (by simp)) (λx r=>by rw[zO.1 r];exact i.sub (CW t _)) EB (λ_ h=>by simp at h) EB (λ_ h=>by simp at h) (by decide)⟩
theorem ls39(k:AP V b0 b1 sl)(hs:V.sub V1)(hv:∀j∈Af 39,AI b1 (Aq b0 V1) j (val j)):AS 39 b0 b1 sl V1 val:=by
 have _:=k.z;have _:=hs;have _:=hv;exact⟨[(1,pv b1)],λs v h=>.inl (by obtain⟨rfl,rfl⟩:=Dc h;rfl),s11o39 (a:=some ⟨b1,0,none⟩) ⟨lsX,rfl,Am (hs _ _ k.x) 0 1 (by simp),_,rfl,lsX,rfl,Mem.sub.refl _,rfl⟩⟩
theorem ls40(k:AP V b0 b1 sl)(hs:V.sub V1)(hv:∀j∈Af 40,AI b1 (Aq b0 V1) j (val j)):AS 40 b0 b1 sl V1 val:=by
 have _:=k.z;have _:=hs;have _:=hv;exact⟨[(1,pv b1)],λs v h=>.inl (by obtain⟨rfl,rfl⟩:=Dc h;rfl),s11o40 (a:=some ⟨b1,0,none⟩) ⟨lsX,rfl,Am (hs _ _ k.x) 0 1 (by simp),_,rfl,lsX,rfl,Mem.sub.refl _,rfl⟩⟩
theorem ls41(k:AP V b0 b1 sl)(hs:V.sub V1)(hv:∀j∈Af 41,AI b1 (Aq b0 V1) j (val j)):AS 41 b0 b1 sl V1 val:=by
 have _:=k.z;have _:=hs;have _:=hv;exact⟨[(2,(AJ b1))],λs v h=>.inl (by obtain⟨rfl,rfl⟩:=Dc h;rfl),s11o41 (a:=(AJ b1)) ⟨_,rfl,(AJ b1),rfl,Mem.sub.refl _,rfl⟩⟩
theorem ls42(g:AP V b0 b1 sl)(hs:V.sub V1)(hv:∀j∈Af 42,AI b1 (Aq b0 V1) j (val j)):AS 42 b0 b1 sl V1 val:=by
 have k:(val 41)=(AJ b1):=hv 41 (by simp[Af]);have eq:[(50,AJ b1)]=(Af 42).map λj=>(9+j,val j):=by simp[Af,k]
 refine⟨_,λs v h=>.inr (BM (by rw[<-eq];exact h)),s11o42 (a:=AJ b1) ?_⟩;unfold w11o42;exact⟨40,#[],#[pv b1],rfl,uH,(GG (s:=AU) (hs _ _ g.x)).callv (first:=[]) (caps:=[pv b1]) ⟨_,_,_,_,rfl,_,rfl,_,rfl,Mem.sub.refl _,.mk 4 0 AU ⟨none,0,0⟩ [],rfl,rfl,lsEk (by decide)⟩⟩
theorem ls43(f:AP V b0 b1 sl)(hs:V.sub V1)(hv:∀j∈Af 43,AI b1 (Aq b0 V1) j (val j)):AS 43 b0 b1 sl V1 val:=by
 have k:lE (Bm AU) (val 42) (Aq b0 V1):=hv 42 (by simp[Af]);obtain⟨e,t,u,w⟩:=k;have eq:[(51,e.v)]=(Af 43).map λj=>(9+j,val j):=by simp[Af,t]
 refine⟨_,λs v h=>.inr (BM (by rw[<-eq];exact h)),s11o43 (a:=e.op) (b:=e.n) (c:=e.s) (d:=e.l) ?_⟩;unfold w11o43;intro b g;exact⟨_,rfl,_,rfl,Mem.sub_new g _,⟨some ⟨b,0,none⟩,1,1⟩,[e],rfl,by rw[vd,u],Ad.cells (xs:=[e]) (row:=E.row) (DK f hs g _) rfl (λ_=>rfl) rfl (by simp),λx y=>by rw[zO.1 y];exact w.sub (CW g _)⟩
theorem ls44(y:AP V b0 b1 sl)(hs:V.sub V1)(hv:∀j∈Af 44,AI b1 (Aq b0 V1) j (val j)):AS 44 b0 b1 sl V1 val:=by
 have k:(val 40)=lsX:=hv 40 (by simp[Af]);have g:lL [Bm AU] (val 43) (Aq b0 V1):=hv 43 (by simp[Af]);obtain⟨l,es,f,t,u,w⟩:=g;have eq:[(49,lsX),(52,l.v)]=(Af 44).map λj=>(9+j,val j):=by simp[Af,k,f]
 refine⟨_,λs v h=>.inr (BM (by rw[<-eq];exact h)),s11o44 (a:=lsX) (b:=l) ?_⟩;unfold w11o44;exact⟨39,#[],#[],rfl,uF,(J9 (op:=5) (s:=Dk) (l:=l)).callv (first:=[]) (caps:=[]) ⟨_,_,_,_,rfl,_,rfl,_,rfl,Mem.sub.refl _,.mk 5 0 Dk l es,rfl,by unfold Dj;rw[ET,t];rfl,.mk u w (by decide) (by decide)⟩⟩
theorem ls45(k:AP V b0 b1 sl)(hs:V.sub V1)(hv:∀j∈Af 45,AI b1 (Aq b0 V1) j (val j)):AS 45 b0 b1 sl V1 val:=by
 have _:=k.z;have _:=hs;have _:=hv;exact⟨[],λ_ _ h=>lsIn0 h,s11o45 ⟨_,rfl,_,rfl,Mem.sub.refl _,.mk 3 0 sE ⟨none,0,0⟩ [],rfl,rfl,lsEk (by decide)⟩⟩
theorem ls46(r:AP V b0 b1 sl)(hs:V.sub V1)(hv:∀j∈Af 46,AI b1 (Aq b0 V1) j (val j)):AS 46 b0 b1 sl V1 val:=by
 have u:lE lsNx (val 44) (Aq b0 V1):=hv 44 (by simp[Af]);have w:lE lsNil (val 45) (Aq b0 V1):=hv 45 (by simp[Af]);obtain⟨e,q,H,J⟩:=u;obtain⟨f,G,f2,f3⟩:=w;have eq:[(53,e.v),(54,f.v)]=(Af 46).map λj=>(9+j,val j):=by simp[Af,q,G]
 refine⟨_,λs v h=>.inr (BM (by rw[<-eq];exact h)),s11o46 (a:=e.op) (b:=e.n) (c:=e.s) (d:=e.l) (g:=f.op) (i:=f.n) (j:=f.s) (k:=f.l) ?_⟩;unfold w11o46;intro b t;exact⟨_,rfl,_,rfl,Mem.sub_new t _,⟨some ⟨b,0,none⟩,2,2⟩,[e,f],rfl,by simp[H,f2],Ad.cells (xs:=[e,f]) (row:=E.row) (DK r hs t _) rfl (λ_=>rfl) rfl (by simp),λx y=>by
  rcases yE.1 y with rfl|y;·exact J.sub (CW t _)
  ·rw[zO.1 y];exact f3.sub (CW t _)⟩
theorem ls47(y:AP V b0 b1 sl)(hs:V.sub V1)(hv:∀j∈Af 47,AI b1 (Aq b0 V1) j (val j)):AS 47 b0 b1 sl V1 val:=by
 have k:(val 39)=lsX:=hv 39 (by simp[Af]);have g:lL [lsNx,lsNil] (val 46) (Aq b0 V1):=hv 46 (by simp[Af]);obtain⟨l,es,f,t,u,w⟩:=g;have eq:[(48,lsX),(55,l.v)]=(Af 47).map λj=>(9+j,val j):=by simp[Af,k,f]
 refine⟨_,λs v h=>.inr (BM (by rw[<-eq];exact h)),s11o47 (a:=lsX) (b:=l) ?_⟩;unfold w11o47;exact⟨39,#[],#[],rfl,uF,(J9 (op:=15) (s:=sE) (l:=l)).callv (first:=[]) (caps:=[]) ⟨_,_,_,_,rfl,_,rfl,_,rfl,Mem.sub.refl _,.mk 15 0 sE l es,rfl,by unfold Dj;rw[ET,t];rfl,.mk u w (by decide) (by decide)⟩⟩
theorem ls48(f:AP V b0 b1 sl)(hs:V.sub V1)(hv:∀j∈Af 48,AI b1 (Aq b0 V1) j (val j)):AS 48 b0 b1 sl V1 val:=by
 have k:lE lsNe (val 47) (Aq b0 V1):=hv 47 (by simp[Af]);obtain⟨e,t,u,w⟩:=k;have eq:[(56,e.v)]=(Af 48).map λj=>(9+j,val j):=by simp[Af,t]
 refine⟨_,λs v h=>.inr (BM (by rw[<-eq];exact h)),s11o48 (a:=e.op) (b:=e.n) (c:=e.s) (d:=e.l) ?_⟩;unfold w11o48;intro b g;exact⟨_,rfl,_,rfl,Mem.sub_new g _,⟨some ⟨b,0,none⟩,1,1⟩,[e],rfl,by rw[vd,u],Ad.cells (xs:=[e]) (row:=E.row) (DK f hs g _) rfl (λ_=>rfl) rfl (by simp),λx y=>by rw[zO.1 y];exact w.sub (CW g _)⟩
theorem ls49(k:AP V b0 b1 sl)(hs:V.sub V1)(hv:∀j∈Af 49,AI b1 (Aq b0 V1) j (val j)):AS 49 b0 b1 sl V1 val:=by
 have _:=k.z;have _:=hs;have _:=hv;exact⟨[(3,lsS)],λs v h=>.inl (by obtain⟨rfl,rfl⟩:=Dc h;rfl),s11o49 (a:=lsS) ⟨_,rfl,lsS,rfl,Mem.sub.refl _,rfl⟩⟩
theorem ls50(k:AP V b0 b1 sl)(hs:V.sub V1)(hv:∀j∈Af 50,AI b1 (Aq b0 V1) j (val j)):AS 50 b0 b1 sl V1 val:=by
 have _:=k.z;have _:=hs;have _:=hv;exact⟨[(1,pv b1)],λs v h=>.inl (by obtain⟨rfl,rfl⟩:=Dc h;rfl),s11o50 (a:=some ⟨b1,0,none⟩) ⟨lsX,rfl,Am (hs _ _ k.x) 0 1 (by simp),_,rfl,lsX,rfl,Mem.sub.refl _,rfl⟩⟩
theorem ls51(k:AP V b0 b1 sl)(hs:V.sub V1)(hv:∀j∈Af 51,AI b1 (Aq b0 V1) j (val j)):AS 51 b0 b1 sl V1 val:=by
 have _:=k.z;have _:=hs;have _:=hv;exact⟨[(2,(AJ b1))],λs v h=>.inl (by obtain⟨rfl,rfl⟩:=Dc h;rfl),s11o51 (a:=(AJ b1)) ⟨_,rfl,(AJ b1),rfl,Mem.sub.refl _,rfl⟩⟩
theorem ls52(g:AP V b0 b1 sl)(hs:V.sub V1)(hv:∀j∈Af 52,AI b1 (Aq b0 V1) j (val j)):AS 52 b0 b1 sl V1 val:=by
 have k:(val 51)=(AJ b1):=hv 51 (by simp[Af]);have eq:[(60,AJ b1)]=(Af 52).map λj=>(9+j,val j):=by simp[Af,k]
 refine⟨_,λs v h=>.inr (BM (by rw[<-eq];exact h)),s11o52 (a:=AJ b1) ?_⟩;unfold w11o52;exact⟨40,#[],#[pv b1],rfl,uH,(GG (s:=AU) (hs _ _ g.x)).callv (first:=[]) (caps:=[pv b1]) ⟨_,_,_,_,rfl,_,rfl,_,rfl,Mem.sub.refl _,.mk 4 0 AU ⟨none,0,0⟩ [],rfl,rfl,lsEk (by decide)⟩⟩
theorem ls53(f:AP V b0 b1 sl)(hs:V.sub V1)(hv:∀j∈Af 53,AI b1 (Aq b0 V1) j (val j)):AS 53 b0 b1 sl V1 val:=by
 have k:lE (Bm AU) (val 52) (Aq b0 V1):=hv 52 (by simp[Af]);obtain⟨e,t,u,w⟩:=k;have eq:[(61,e.v)]=(Af 53).map λj=>(9+j,val j):=by simp[Af,t]
 refine⟨_,λs v h=>.inr (BM (by rw[<-eq];exact h)),s11o53 (a:=e.op) (b:=e.n) (c:=e.s) (d:=e.l) ?_⟩;unfold w11o53;intro b g;exact⟨_,rfl,_,rfl,Mem.sub_new g _,⟨some ⟨b,0,none⟩,1,1⟩,[e],rfl,by rw[vd,u],Ad.cells (xs:=[e]) (row:=E.row) (DK f hs g _) rfl (λ_=>rfl) rfl (by simp),λx y=>by rw[zO.1 y];exact w.sub (CW g _)⟩
theorem ls54(y:AP V b0 b1 sl)(hs:V.sub V1)(hv:∀j∈Af 54,AI b1 (Aq b0 V1) j (val j)):AS 54 b0 b1 sl V1 val:=by
 have k:(val 50)=lsX:=hv 50 (by simp[Af]);have g:lL [Bm AU] (val 53) (Aq b0 V1):=hv 53 (by simp[Af]);obtain⟨l,es,f,t,u,w⟩:=g;have eq:[(59,lsX),(62,l.v)]=(Af 54).map λj=>(9+j,val j):=by simp[Af,k,f]
 refine⟨_,λs v h=>.inr (BM (by rw[<-eq];exact h)),s11o54 (a:=lsX) (b:=l) ?_⟩;unfold w11o54;exact⟨39,#[],#[],rfl,uF,(J9 (op:=5) (s:=Dk) (l:=l)).callv (first:=[]) (caps:=[]) ⟨_,_,_,_,rfl,_,rfl,_,rfl,Mem.sub.refl _,.mk 5 0 Dk l es,rfl,by unfold Dj;rw[ET,t];rfl,.mk u w (by decide) (by decide)⟩⟩
theorem ls55(u:AP V b0 b1 sl)(hs:V.sub V1)(hv:∀j∈Af 55,AI b1 (Aq b0 V1) j (val j)):AS 55 b0 b1 sl V1 val:=by
 have k:(val 49)=lsS:=hv 49 (by simp[Af]);have f:lE lsNx (val 54) (Aq b0 V1):=hv 54 (by simp[Af]);obtain⟨e,w,y,i⟩:=f;have eq:[(58,lsS),(63,e.v)]=(Af 55).map λj=>(9+j,val j):=by simp[Af,k,w]
 refine⟨_,λs v h=>.inr (BM (by rw[<-eq];exact h)),s11o55 (a:=lsS) (b:=e.op) (c:=e.n) (d:=e.s) (g:=e.l) ?_⟩;unfold w11o55;refine⟨41,#[],#[],rfl,uG,Kx ?_⟩;intro b t;exact⟨_,_,_,_,_,rfl,_,rfl,_,rfl,Mem.sub_new t _,1,AU,⟨some ⟨b,0,none⟩,1,1⟩,[e],⟨none,0,0⟩,[],rfl,by unfold Dv;rw[ET,vd,y];rfl,.mk (Ad.cells (xs:=[e]) (row:=E.row) (DK u hs t _) rfl (λ_=>rfl) rfl (by simp)) (λx r=>by rw[zO.1 r];exact i.sub (CW t _)) EB (λ_ h=>by simp at h) EB (λ_ h=>by simp at h) (by decide)⟩
theorem ls56(n:AP V b0 b1 sl)(hs:V.sub V1)(hv:∀j∈Af 56,AI b1 (Aq b0 V1) j (val j)):AS 56 b0 b1 sl V1 val:=by
 have y:lS (E6 AU lsNx) (val 55) (Aq b0 V1):=hv 55 (by simp[Af]);obtain⟨t,u,w,k,k0,f,p0,q0,r⟩:=y;have eq:[(64,(S.mk t u w k k0 f ⟨none,0,0⟩ []).v)]=(Af 56).map λj=>(9+j,val j):=by simp[Af,p0]
 refine⟨_,λs v h=>.inr (BM (by rw[<-eq];exact h)),s11o56 (a:=t) (b:=u) (c:=w) (d:=k0) (g:=⟨none,0,0⟩) ?_⟩;unfold w11o56;intro b i;exact⟨_,rfl,_,rfl,Mem.sub_new i _,⟨some ⟨b,0,none⟩,1,1⟩,[S.mk t u w k k0 f ⟨none,0,0⟩ []],rfl,by simp only[zG,xp,q0],Ad.cells (xs:=[S.mk t u w k k0 f ⟨none,0,0⟩ []]) (row:=S.row) (DK n hs i _) rfl (λx=>by cases x;rfl) rfl (by simp),λx l=>by
  simp only[yE,xE,or_false]at l;subst l;·exact r.sub (CW i _)⟩
theorem ls57(e:AP V b0 b1 sl)(hs:V.sub V1)(hv:∀j∈Af 57,AI b1 (Aq b0 V1) j (val j)):AS 57 b0 b1 sl V1 val:=by
 have g:lL [lsNe] (val 48) (Aq b0 V1):=hv 48 (by simp[Af]);have f:lB [E6 AU lsNx] (val 56) (Aq b0 V1):=hv 56 (by simp[Af]);obtain⟨l,es,t,u,w,y⟩:=g;obtain⟨k,ss,i,n,r,q⟩:=f;have eq:[(57,l.v),(65,k.v)]=(Af 57).map λj=>(9+j,val j):=by simp[Af,t,i]
 refine⟨_,λs v h=>.inr (BM (by rw[<-eq];exact h)),s11o57 (a:=l) (b:=k) ⟨_,rfl,_,rfl,Mem.sub.refl _,4,sE,l,es,k,ss,rfl,by unfold Dv;rw[ET,u,JY,n];rfl,.mk w y r q EB (λ_ h=>by simp at h) (by decide)⟩⟩
theorem ls58(k:AP V b0 b1 sl)(hs:V.sub V1)(hv:∀j∈Af 58,AI b1 (Aq b0 V1) j (val j)):AS 58 b0 b1 sl V1 val:=by
 have _:=k.z;have _:=hs;have _:=hv;exact⟨[(4,lsP)],λs v h=>.inl (by obtain⟨rfl,rfl⟩:=Dc h;rfl),s11o58 (a:=lsP) ⟨_,rfl,lsP,rfl,Mem.sub.refl _,rfl⟩⟩
theorem ls59(k:AP V b0 b1 sl)(hs:V.sub V1)(hv:∀j∈Af 59,AI b1 (Aq b0 V1) j (val j)):AS 59 b0 b1 sl V1 val:=by
 have _:=k.z;have _:=hs;have _:=hv;exact⟨[(2,(AJ b1))],λs v h=>.inl (by obtain⟨rfl,rfl⟩:=Dc h;rfl),s11o59 (a:=(AJ b1)) ⟨_,rfl,(AJ b1),rfl,Mem.sub.refl _,rfl⟩⟩
theorem ls60(g:AP V b0 b1 sl)(hs:V.sub V1)(hv:∀j∈Af 60,AI b1 (Aq b0 V1) j (val j)):AS 60 b0 b1 sl V1 val:=by
 have k:(val 59)=(AJ b1):=hv 59 (by simp[Af]);have eq:[(68,AJ b1)]=(Af 60).map λj=>(9+j,val j):=by simp[Af,k]
 refine⟨_,λs v h=>.inr (BM (by rw[<-eq];exact h)),s11o60 (a:=AJ b1) ?_⟩;unfold w11o60;exact⟨40,#[],#[pv b1],rfl,uH,(GG (s:=AU) (hs _ _ g.x)).callv (first:=[]) (caps:=[pv b1]) ⟨_,_,_,_,rfl,_,rfl,_,rfl,Mem.sub.refl _,.mk 4 0 AU ⟨none,0,0⟩ [],rfl,rfl,lsEk (by decide)⟩⟩
theorem ls61(k:AP V b0 b1 sl)(hs:V.sub V1)(hv:∀j∈Af 61,AI b1 (Aq b0 V1) j (val j)):AS 61 b0 b1 sl V1 val:=by
 have _:=k.z;have _:=hs;have _:=hv;exact⟨[(2,(AJ b1))],λs v h=>.inl (by obtain⟨rfl,rfl⟩:=Dc h;rfl),s11o61 (a:=(AJ b1)) ⟨_,rfl,(AJ b1),rfl,Mem.sub.refl _,rfl⟩⟩
theorem ls62(g:AP V b0 b1 sl)(hs:V.sub V1)(hv:∀j∈Af 62,AI b1 (Aq b0 V1) j (val j)):AS 62 b0 b1 sl V1 val:=by
 have k:(val 61)=(AJ b1):=hv 61 (by simp[Af]);have eq:[(70,AJ b1)]=(Af 62).map λj=>(9+j,val j):=by simp[Af,k]
 refine⟨_,λs v h=>.inr (BM (by rw[<-eq];exact h)),s11o62 (a:=AJ b1) ?_⟩;unfold w11o62;exact⟨40,#[],#[pv b1],rfl,uH,(GG (s:=Em) (hs _ _ g.x)).callv (first:=[]) (caps:=[pv b1]) ⟨_,_,_,_,rfl,_,rfl,_,rfl,Mem.sub.refl _,.mk 4 0 Em ⟨none,0,0⟩ [],rfl,rfl,lsEk (by decide)⟩⟩
theorem ls63(q:AP V b0 b1 sl)(hs:V.sub V1)(hv:∀j∈Af 63,AI b1 (Aq b0 V1) j (val j)):AS 63 b0 b1 sl V1 val:=by
 have u:(val 58)=lsP:=hv 58 (by simp[Af]);have w:lE (Bm AU) (val 60) (Aq b0 V1):=hv 60 (by simp[Af]);have y:lE (Bm Em) (val 62) (Aq b0 V1):=hv 62 (by simp[Af]);obtain⟨e,H,J,G⟩:=w;obtain⟨f,N,f2,f3⟩:=y;have eq:[(67,lsP),(69,e.v),(71,f.v)]=(Af 63).map λj=>(9+j,val j):=by simp[Af,u,H,N]
 refine⟨_,λs v h=>.inr (BM (by rw[<-eq];exact h)),s11o63 (a:=lsP) (b:=e.op) (c:=e.n) (d:=e.s) (g:=e.l) (i:=f.op) (j:=f.n) (k:=f.s) (l:=f.l) ?_⟩;unfold w11o63;refine⟨42,#[],#[],rfl,uJ,Me ?_⟩;intro b t;exact⟨_,_,_,_,_,rfl,_,rfl,_,rfl,Mem.sub_new t _,2,Dk,⟨some ⟨b,0,none⟩,2,2⟩,[e,f],⟨none,0,0⟩,[],rfl,by unfold Dv;rw[ET,zG,vd,J,f2];rfl,.mk (Ad.cells (xs:=[e,f]) (row:=E.row) (DK q hs t _) rfl (λ_=>rfl) rfl (by simp)) (λx r=>by
  rcases yE.1 r with rfl|r;·exact G.sub (CW t _)
  ·rw[zO.1 r];exact f3.sub (CW t _)) EB (λ_ h=>by simp at h) EB (λ_ h=>by simp at h) (by decide)⟩
theorem ls64(E:AP V b0 b1 sl)(hs:V.sub V1)(hv:∀j∈Af 64,AI b1 (Aq b0 V1) j (val j)):AS 64 b0 b1 sl V1 val:=by
 have L:lS (E6 AU (Bm CM)) (val 38) (Aq b0 V1):=hv 38 (by simp[Af]);have R:lS lsWh (val 57) (Aq b0 V1):=hv 57 (by simp[Af]);have X:lS (Hd Dk (Bm AU) (Bm Em)) (val 63) (Aq b0 V1):=hv 63 (by simp[Af]);obtain⟨J,G,N,f,k0,t,p0,q0,K⟩:=L;obtain⟨Z,Y,W,w,Q,y,p1,T,U⟩:=R;obtain⟨P,O,I,n,M,e,p2,q2,r2⟩:=X;have eq:[(47,(S.mk J G N f k0 t ⟨none,0,0⟩ []).v),(66,(S.mk Z Y W w Q y ⟨none,0,0⟩ []).v),(72,(S.mk P O I n M e ⟨none,0,0⟩ []).v)]=(Af 64).map λj=>(9+j,val j):=by simp[Af,p0,p1,p2]
 refine⟨_,λs v h=>.inr (BM (by rw[<-eq];exact h)),s11o64 (a:=J) (b:=G) (c:=N) (d:=k0) (g:=⟨none,0,0⟩) (i:=Z) (j:=Y) (k:=W) (l:=Q) (o:=⟨none,0,0⟩) (p:=P) (q:=O) (r:=I) (s:=M) (u:=⟨none,0,0⟩) ?_⟩;unfold w11o64;intro b H;exact⟨_,rfl,_,rfl,Mem.sub_new H _,⟨some ⟨b,0,none⟩,3,3⟩,[S.mk J G N f k0 t ⟨none,0,0⟩ [],S.mk Z Y W w Q y ⟨none,0,0⟩ [],S.mk P O I n M e ⟨none,0,0⟩ []],rfl,by simp only[zG,xp,q0,T,q2];rfl,Ad.cells (xs:=[S.mk J G N f k0 t ⟨none,0,0⟩ [],S.mk Z Y W w Q y ⟨none,0,0⟩ [],S.mk P O I n M e ⟨none,0,0⟩ []]) (row:=S.row) (DK E hs H _) rfl (λx=>by cases x;rfl) rfl (by simp),λx C=>by
  simp only[yE,xE,or_false]at C;rcases C with rfl|rfl|rfl;·exact K.sub (CW H _)
  ·exact U.sub (CW H _)
  ·exact r2.sub (CW H _)⟩
theorem ls65(H:AP V b0 b1 sl)(hs:V.sub V1)(hv:∀j∈Af 65,AI b1 (Aq b0 V1) j (val j)):AS 65 b0 b1 sl V1 val:=by
 have g:lF [⟨Em,Bu⟩] (val 33) (Aq b0 V1):=hv 33 (by simp[Af]);have f:lF [⟨AU,Bu⟩] (val 34) (Aq b0 V1):=hv 34 (by simp[Af]);have t:lB lsPr2.body (val 64) (Aq b0 V1):=hv 64 (by simp[Af]);obtain⟨l,u,w⟩:=g;obtain⟨m,y,i⟩:=f;obtain⟨k,ss,n,r,q,e⟩:=t;have eq:[(42,l.v),(43,m.v),(73,k.v)]=(Af 65).map λj=>(9+j,val j):=by simp[Af,u,y,n]
 refine⟨_,λs v h=>.inr (BM (by rw[<-eq];exact h)),s11o65 (a:=l) (b:=m) (c:=k) ⟨_,rfl,_,rfl,Mem.sub.refl _,⟨lsApp,l,[⟨Em,Bu⟩],sE,m,[⟨AU,Bu⟩],k,ss⟩,rfl,by unfold pEr;rw[JY,r];rfl,⟨w,i,q,e⟩⟩⟩
theorem ls66(w:AP V b0 b1 sl)(hs:V.sub V1)(hv:∀j∈Af 66,AI b1 (Aq b0 V1) j (val j)):AS 66 b0 b1 sl V1 val:=by
 have t:lP FU (val 31) (Aq b0 V1):=hv 31 (by simp[Af]);have u:lP lsPr2 (val 65) (Aq b0 V1):=hv 65 (by simp[Af]);obtain⟨p,y,n,r⟩:=t;obtain⟨q,e,f2,f3⟩:=u;have eq:[(40,p.v),(74,q.v)]=(Af 66).map λj=>(9+j,val j):=by simp[Af,y,e]
 refine⟨_,λs v h=>.inr (BM (by rw[<-eq];exact h)),s11o66 (a:=p.name) (b:=p.ps) (c:=p.result) (d:=p.ls) (g:=p.bs) (i:=q.name) (j:=q.ps) (k:=q.result) (l:=q.ls) (o:=q.bs) ?_⟩;unfold w11o66;intro b f;exact⟨_,rfl,_,rfl,Mem.sub_new f _,⟨some ⟨b,0,none⟩,2,2⟩,p,q,rfl,n,f2,Ad.cells (xs:=[p,q]) (row:=Pr.row) (DK w hs f _) rfl (λ_=>rfl) rfl (by simp),J8 (CW f _) r,J8 (CW f _) f3⟩
theorem ls67(G:AP V b0 b1 sl)(hs:V.sub V1)(hv:∀j∈Af 67,AI b1 (Aq b0 V1) j (val j)):AS 67 b0 b1 sl V1 val:=by
 have h4:Jj (val 4) (Aq b0 V1):=hv 4 (by simp[Af]);have f:lF [⟨CM,Bu⟩] (val 6) (Aq b0 V1):=hv 6 (by simp[Af]);have g:Jk (val 66) (Aq b0 V1):=hv 66 (by simp[Af]);obtain⟨ts,x,u,w,y,i⟩:=h4;obtain⟨gs,l,n⟩:=f;obtain⟨ps,p,q,p1,r,e,p3,H,J⟩:=g;have eq:[(13,ts.v),(15,gs.v),(75,ps.v)]=(Af 67).map λj=>(9+j,val j):=by simp[Af,u,l,p1]
 refine⟨_,λs v h=>.inr (BM (by rw[<-eq];exact h)),s11o67 (a:=ts) (b:=gs) (c:=ps) ⟨_,rfl,_,rfl,Mem.sub.refl _,⟨lsLists,ts,[x],gs,[⟨CM,Bu⟩],ps,[p,q],⟨none,0,0⟩,[],⟨none,0,0⟩,[],⟨none,0,0⟩,[],⟨none,0,0⟩,[]⟩,rfl,⟨?_,rfl,rfl,rfl,rfl⟩,?_⟩⟩
 ·unfold AA;rw[vd,zG,vd,w,r,e];rfl
 ·exact
  {types:=y
   typesOk:=λt k=>by rw[zO.1 k];exact i
   globals:=n
   procs:=p3
   procsOk:=λt k=>by
    rcases yE.1 k with rfl|k;·exact H
    ·rw[zO.1 k];exact J
   measures:=Ad.nil
   measuresOk:=λ_ h=>by simp at h
   invs:=Ad.nil
   invsOk:=λ_ h=>by simp at h
   pots:=Ad.nil
   potsOk:=λ_ h=>by simp at h
   bounds:=Ad.nil
   boundsOk:=λ_ h=>by simp at h}
end
section
variable{V V1:Mem}{b0 b1:Nat}{sl:Sl}{val:Nat->Value}
noncomputable def lsR6:Code:=(flat (AO uK)).getD 6 .skip
theorem lists_flat:flat (AO uK)=c11a++[lsR6,.ret]:=by kernel_rfl
theorem lsR6_eq:lsR6=.region 6 AH true:=by kernel_rfl
theorem lsR6_ok:anyOk AH 68 9 Af=true:=by kernel_rfl
theorem lsR6_size:(AH).size=69:=by kernel_rfl
theorem RL{tmps:Array Value}{b:Nat}{d:Ds}{w:World}(k:tmps.getD 0 undef=pv b)(h:w.heap[b]?=some (.cells d.row.toArray 35 (0,0))):(results uK tmps).run xG w=.ok d.v w:=by
 have g:uK.results=#[.cell 0 35]:=by kernel_rfl
 unfold results;rw[g];have e:asAddr (tmps.getD 0 undef)=pure ⟨b,0,none⟩:=by rw[k];rfl
 have f:=Jt (P:=xG) (t:=35) (cs:=.cons (.var .s 0) (.cons (.var .sl 1) (.cons (.var .sl 2) (.cons (.var .sl 3) (.cons (.var .sl 4) (.cons (.var .sl 5) (.cons (.var .sl 6) (.cons (.var .sl 7) .nil)))))))) (x:=.agg (.cons (.var .s 0) (.cons (.var .sl 1) (.cons (.var .sl 2) (.cons (.var .sl 3) (.cons (.var .sl 4) (.cons (.var .sl 5) (.cons (.var .sl 6) (.cons (.var .sl 7) .nil))))))))) (ρ:=d.row) (β:=id) (o:=0) (b:=b) (w:=w) h (by kernel_rfl);simp only[List.mapM_toArray,List.mapM_cons,List.mapM_nil,Sem.run_bind,Sem.run_map,Sem.run_pure,Result.andThen_ok,e,show(loadVar 35 ⟨b,0,none⟩).run xG w=.ok d.v w from f];rfl
theorem lsStep(k:AP V b0 b1 sl)(hs:V.sub V1):∀i,i<68->(∀j∈Af i,AI b1 (Aq b0 V1) j (val j))->AS i b0 b1 sl V1 val
 |0,_,hv=>RD k hs hv
 |1,_,hv=>M9 k hs hv
 |2,_,hv=>JQ k hs hv
 |3,_,hv=>I5 k hs hv
 |4,_,hv=>RF k hs hv
 |5,_,hv=>G9 k hs hv
 |6,_,hv=>RG k hs hv
 |7,_,hv=>G8 k hs hv
 |8,_,hv=>RH k hs hv
 |9,_,hv=>RJ k hs hv
 |10,_,hv=>ls10 k hs hv
 |11,_,hv=>ls11 k hs hv
 |12,_,hv=>ls12 k hs hv
 |13,_,hv=>ls13 k hs hv
 |14,_,hv=>ls14 k hs hv
 |15,_,hv=>ls15 k hs hv
 |16,_,hv=>ls16 k hs hv
 |17,_,hv=>ls17 k hs hv
 |18,_,hv=>ls18 k hs hv
 |19,_,hv=>ls19 k hs hv
 |20,_,hv=>ls20 k hs hv
 |21,_,hv=>ls21 k hs hv
 |22,_,hv=>ls22 k hs hv
 |23,_,hv=>ls23 k hs hv
 |24,_,hv=>ls24 k hs hv
 |25,_,hv=>ls25 k hs hv
 |26,_,hv=>ls26 k hs hv
 |27,_,hv=>ls27 k hs hv
 |28,_,hv=>ls28 k hs hv
 |29,_,hv=>ls29 k hs hv
 |30,_,hv=>ls30 k hs hv
 |31,_,hv=>ls31 k hs hv
 |32,_,hv=>ls32 k hs hv
 |33,_,hv=>ls33 k hs hv
 |34,_,hv=>ls34 k hs hv
 |35,_,hv=>ls35 k hs hv
 |36,_,hv=>ls36 k hs hv
 |37,_,hv=>ls37 k hs hv
 |38,_,hv=>ls38 k hs hv
 |39,_,hv=>ls39 k hs hv
 |40,_,hv=>ls40 k hs hv
 |41,_,hv=>ls41 k hs hv
 |42,_,hv=>ls42 k hs hv
 |43,_,hv=>ls43 k hs hv
 |44,_,hv=>ls44 k hs hv
 |45,_,hv=>ls45 k hs hv
 |46,_,hv=>ls46 k hs hv
 |47,_,hv=>ls47 k hs hv
 |48,_,hv=>ls48 k hs hv
 |49,_,hv=>ls49 k hs hv
 |50,_,hv=>ls50 k hs hv
 |51,_,hv=>ls51 k hs hv
 |52,_,hv=>ls52 k hs hv
 |53,_,hv=>ls53 k hs hv
 |54,_,hv=>ls54 k hs hv
 |55,_,hv=>ls55 k hs hv
 |56,_,hv=>ls56 k hs hv
 |57,_,hv=>ls57 k hs hv
 |58,_,hv=>ls58 k hs hv
 |59,_,hv=>ls59 k hs hv
 |60,_,hv=>ls60 k hs hv
 |61,_,hv=>ls61 k hs hv
 |62,_,hv=>ls62 k hs hv
 |63,_,hv=>ls63 k hs hv
 |64,_,hv=>ls64 k hs hv
 |65,_,hv=>ls65 k hs hv
 |66,_,hv=>ls66 k hs hv
 |67,_,hv=>ls67 k hs hv
 |_+68,h,_=>by omega
theorem c11{V:Mem}:Tri xG 11 #[] V λe V'=>V.sub V'/\∃d:Ds,e=.returned d.v/\FC Ct d/\Ds.Ok V' d:=by
 unfold Go.Sx.Tri;intro w E;refine(callsIn_wide (n:=0)).1 (callsIn_of_wp (F:=AN none) Tryz.func11 (c:=AO uK) (by kernel_rfl) trivial (Hz ?_) rfl);rw[lists_flat];have K:A9 xG 77 c11a [] [0,1,2,3,4,5] V λvs V1=>∃b0 b1 sl,vs=[pv b0,pv b1,AJ b1,lsS,lsP,sl.v]/\AP V1 b0 b1 sl/\V.sub V1/\V b0=none/\∃c,c.size=8/\V1 b0=some (.cells c 35 (0,0)):=by
  refine s11a ?_;unfold w11a;intro b0 f b1 q b2 H;refine⟨_,rfl,b0,b1,⟨some ⟨b2,0,none⟩,1,1⟩,rfl,?_⟩;have S:=Mem.sub_new f (.cells #[uS (Ac []),.slice none 0 0,.slice none 0 0,.slice none 0 0,.slice none 0 0,.slice none 0 0,.slice none 0 0,.slice none 0 0] 35 (0,0));have L:=Mem.sub_new q (.cells #[lsX] 105 (0,0));have J:=Mem.sub_new H (.cells #[uS AU,uS Bu] 112 (0,0));have R:=(L.trans J) _ _ (Mem.set_same V b0 (.cells #[uS (Ac []),.slice none 0 0,.slice none 0 0,.slice none 0 0,.slice none 0 0,.slice none 0 0,.slice none 0 0,.slice none 0 0] 35 (0,0)));have T:b2≠b0:=λe=>by
   simp_all[Mem.set_same,uS,Ac]
  refine⟨⟨⟨_,R⟩,J _ _ Az,?_⟩,S.trans (L.trans J),f,_,rfl,R⟩;refine Ad.cells (xs:=[(⟨AU,Bu⟩:Fld)]) (row:=Fld.row) (fr:=(0,0)) (t:=112) ?_ rfl (λ_=>rfl) rfl (by simp);rw[lsO_ne T];exact Mem.set_same _ _ _
 refine K.step E ⟨by simp,λs v h=>by cases h⟩ ?_;rintro a1 X vs V1 G Z ⟨b0,b1,sl,rfl,U,Y,f,c,C,W⟩ y;show Code.wpIn (AN none) 0 xG lsR6 _ a1 X;rw[lsR6_eq];refine wpIn_region_any (by kernel_rfl) ?_;rw[lsR6_size];refine anyR_sound (M:=68) (k0:=9) (N:=77) (deps:=Af) (Pr:=λi v A=>AI b1 (Aq b0 A) i v) (Φ:=λV'=>V.sub V'/\∃d:Ds,FC Ct d/\Ds.Ok V' d/\V' b0=some (.cells d.row.toArray 35 (0,0))) (V:=V1) (base:=lsBase b0 b1 sl) (a0:=a1) (w0:=X) lsR6_ok (λi v A B h=>lsQ_mono (LD h) i v) (λs v h=>?_) (by decide)
  (λi hi A u val hv=>lsStep U u i hi hv) (λA u val hv=>?_) (λa' w' V' Q P O r=>?_) 69 _ _ _ (by simp) ?_ (.inl ⟨V1,Mem.sub.refl _,⟨Nat.le_refl _,y.le,λ_ _ _=>rfl,λ_ h=>.inl h,rfl,rfl⟩,rfl,Z,by simp,λi hi h=>?_,λi hi h=>?_⟩)
 ·grind[lsBase]
 ·obtain⟨d,d1,d2,d3⟩:lD (val 67) (Aq b0 A):=hv 67 (by simp[Af]);refine⟨[(0,pv b0),(76,d.v)],λs v h=>?_,s11o68 (a:=some ⟨b0,0,none⟩) (b:=d.name) (c:=d.ts) (d:=d.gs) (g:=d.ps) (i:=d.ms) (j:=d.is) (k:=d.qs) (l:=d.bs) ?_⟩
  ·rw[zb]at h;split at h;·rename_i e;simp only[beq_iff_eq]at e;subst e;cases h;exact .inl rfl
   ·obtain⟨rfl,rfl⟩:=Dc h;exact .inr ⟨67,by simp[Af],rfl,d1.symm⟩
  ·unfold w11o68;have I:=u _ _ W;refine An.at_ I (by simp[C]) ⟨_,rfl,(Y.trans u).set f _,d,d2,d3.sub λx o hx=>?_,?_⟩
   ·by_cases e:x=b0;·grind[lsO_no]
    ·rw[Mem.set_ne e];exact lsO_le _ _ hx
   ·rw[Mem.set_same];have:c.toList.drop (0+8)=[]:=List.drop_eq_nil_of_le (by simp[C]);show some (Obj.cells (c.toList.take 0++d.row++c.toList.drop (0+8)).toArray _ _)=_;rw[this];simp
 ·obtain⟨h1,d,h2,h3,h4⟩:=O;show Code.wpIn (AN none) 0 xG .ret _ a' w';refine wpIn_ret ?_;exact⟨Q.trans G,d.v,RL (P.get rfl) (r.le _ _ h4),V',⟨h1,d,rfl,h2,h3⟩,y.trans r⟩
 ·have h2:=List.length_filter_le (λi=>!(wH 69 false).getD i true) (List.range (68+1));rw[List.length_range]at h2;exact h2
 ·have hf:(wH 69 false).getD i false=false:=by simp[Array.getD]
  simp_all
 ·have hf:(wH 69 false).getD i false=false:=by simp[Array.getD]
  simp_all
end
end Go.Proofs
namespace Go.Proofs
open Go Go.Sx
section
variable{d d':Ds}{m:Mm}
theorem nodeTgt_same(h:∀t,Bi d' t=Bi d t)(n:Int):nodeTgt d' m n=nodeTgt d m n:=by
 simp_all[nodeTgt]
theorem entP_same(h:∀t,Bi d' t=Bi d t):∀f,Bp d' m f=Bp d m f
 |0=>by funext st n;rw[Bp,Bp]
 |f+1=>by
  funext st n;rw[Bp,Bp,nodeTgt_same h,entP_same h f]
theorem canP_same(h:∀t,Bi d' t=Bi d t)(k:d'.globals=d.globals)(m:Mm):canP d' m=canP d m:=by
 have g:Bn d' m=Bn d m:=by
  grind[Bn,lookP,entP_same]
 simp_all[canP]
variable(SD:FC d d')
include SD
theorem sd_glob:d'.globals=d.globals:=(congrArg Ds.globals SD.er).symm
theorem sd_can(m:Mm):canP d' m=canP d m:=canP_same SD.fields (sd_glob SD) m
theorem sd_uni(x y:Mm):Cg d' x y=Cg d x y/\Cp d' x y=Cp d x y:=by
 unfold Cg Cp Db;rw[sd_can SD];simp only[SD.fields,and_self]
theorem sd_pr(nm:KB):(Cq d' nm).params=(Cq d nm).params/\(Cq d' nm).result=(Cq d nm).result:=by
 unfold Cq;rw[SD.idx];have h:d.procs.map pEr=d'.procs.map pEr:=congrArg Ds.procs SD.er;have h2:(d.procs[(AC d nm).toNat]?).map pEr=(d'.procs[(AC d nm).toNat]?).map pEr:=by rw[<-y6,<-y6,h]
 cases k:d.procs[(AC d nm).toNat]? with
 |none=>
  grind
 |some p=>
  cases g:d'.procs[(AC d nm).toNat]? with
  |none=>simp_all
  |some q=>
   rw[k,g]at h2;have h3:pEr p=pEr q:=Option.some.inj h2;exact⟨(congrArg Pr.params h3).symm,(congrArg Pr.result h3).symm⟩
theorem sd_stE(F:Int)(ps:List PV)(x:Sp):Cb d' F ps x=Cb d F ps x:=by
 obtain⟨h1,h2⟩:=sd_pr SD x.nm;have h:entB (Cq d' x.nm)=entB (Cq d x.nm):=by grind[entB]
 have k:CL d' (Cq d' x.nm)=CL d (Cq d x.nm):=by grind[CL,sd_glob]
 unfold Cb Ek Dw;rw[h,k,SD.idx,SD.cll,(sd_uni SD _ _).1]
theorem sd_stR(F:Nat)(ps:List PV)(x:Sp):Cr d' F ps x=Cr d F ps x:=by
 unfold Cr HI stM;rw[(sd_uni SD _ _).1,(sd_uni SD _ _).2,SD.idx,SD.play]
theorem sd_next(r:Rx Int)(ps:List PV)(par:List Int)(er:Int):CV d' r ps par er=CV d r ps par er:=by
 unfold CV runV newV;rw[sd_can SD]
end
def Dd:PV:=⟨([0],[]),[],1⟩
def lsV1:PV:=⟨([1],[(0,[5,0])]),[0],1⟩
def lsV2:PV:=⟨([1],[(0,[7,0])]),[0],1⟩
def lsV3:PV:=⟨([1],[(0,[5,2]),(0,[7,0])]),[1,2],2⟩
def lsV4:PV:=⟨([1],[(0,[5,2]),(0,[7,3]),(0,[5,4]),(0,[7,0])]),[3,3],4⟩
def Im(b:Int)(l:Sl)(k:Int):Sp:=⟨false,0,b,Il,l,[k]⟩
def He(a b:Int):Sp:=⟨true,a,b,lsApp,Ai,[]⟩
def lsDo(F:Int)(ps:List PV)(x:Sp):Int×Int×List PV:=(Cb Ct F ps x,DI (Cr Ct F.toNat ps x),CV Ct (Cr Ct F.toNat ps x) ps (FD x) (Cb Ct F ps x))
theorem ls_valid:BB Ct=true:=by kernel_rfl
theorem ls_chk:CT Ct=none:=by kernel_rfl
theorem ls_mem:BF Ct (BX Ct Ai)=true:=by kernel_rfl
theorem ls_good:Ao Ct (BX Ct Ai):=⟨ls_valid,ls_chk,ls_mem⟩
theorem ls_1{b:Int}{l:Sl}:lsDo 100 [Dd] (Im b l 5)=(0,0,[Dd,lsV1]):=by kernel_rfl
theorem ls_2{b:Int}{l:Sl}:lsDo 100 [Dd,lsV1] (Im b l 7)=(0,0,[Dd,lsV1,lsV2]):=by kernel_rfl
theorem ls_3:lsDo 100 [Dd,lsV1,lsV2] (He 1 2)=(0,0,[Dd,lsV1,lsV2,lsV3]):=by kernel_rfl
theorem ls_4:lsDo 100 [Dd,lsV1,lsV2,lsV3] (He 3 3)=(0,0,[Dd,lsV1,lsV2,lsV3,lsV4]):=by kernel_rfl
end Go.Proofs
namespace Go.Proofs
open Go Go.Sx
attribute [local irreducible] Go.Sx.Tri
section
variable{V D:Mem}{p:Nat}{d:Ds}{ps ps':List PV}{F:Int}{x:Sp}
theorem Cs.pub(h:Cs D V p d ps){b:Nat}(g:V b=none)(o:Obj):Cs (D.set b o) (V.set b o) p d ps/\D.sub (D.set b o):=by
 obtain⟨vs,k,rfl,H⟩:=h;obtain⟨h1,h2⟩:=H.pub g o;exact⟨h1.sta,h2⟩
theorem Cs.call[Tab D](h:Cs D V p d ps)(f:Ds.Ok D d){a b:Int}(t:F<=4000∨1048576<F){nm:KB}{l:Sl}{args:List Int}(u:Ad D l 1 (args.map Ak))(g:ps.length<=900):
  Tri xG 12 #[pv p,.int .i64 a,.agg #[.string nm,l.v],.int .i64 F] V (E3 D p d ps F ⟨false,a,b,nm,l,args⟩):=by
 obtain⟨vs,k,rfl,H⟩:=h;rw[xi]at g;exact O9 H f t u g
theorem Cs.meld[Tab D](h:Cs D V p d ps)(f:Ds.Ok D d){a b:Int}(t:F<=4000∨1048576<F){nm:KB}{l:Sl}{args:List Int}(g:ps.length<=900):
  Tri xG 13 #[pv p,.int .i64 a,.int .i64 b,.string nm,.int .i64 F] V (E3 D p d ps F ⟨true,a,b,nm,l,args⟩):=by
 obtain⟨vs,k,rfl,H⟩:=h;rw[xi]at g;exact Pa H f t g
theorem stepL(SD:FC Ct d)(g:lsDo F ps x=(0,0,ps')){e:Ending}{V':Mem}(h:E3 D p d ps F x e V'):∃(k:Mem)(a b c:Int),D.sub k/\Cs k V' p d ps'/\e=.returned (.tuple #[.int .i64 ps.length,.agg #[.int .i64 0,.int .i64 a,.int .i64 b,.int .i64 c,.int .i64 0],.int .i64 0]):=by
 obtain⟨k,h1,h2,h3⟩:=h;have t:Cb Ct F ps x=0:=congrArg Prod.fst g;have f:DI (Cr Ct F.toNat ps x)=0:=congrArg (λy=>y.2.1) g;have u:CV Ct (Cr Ct F.toNat ps x) ps (FD x) (Cb Ct F ps x)=ps':=congrArg (λy=>y.2.2) g;rw[sd_next SD,sd_stR SD,sd_stE SD,u]at h2;rw[sd_stE SD,sd_stR SD,t]at h3;unfold resV at h3;rw[if_pos rfl,if_pos f,f]at h3;exact⟨k,_,_,_,h1,h2,h3⟩
theorem LF(SD:FC Ct d):BX d Ai=BX Ct Ai:=by
 unfold BX;rw[sd_glob SD]
theorem c9[Tab V]:PP 9 [] V (.bool true):=by
 refine Bf.mk (x9 ?_);refine Tri.mono c11 ?_;rintro _ V1 ⟨s1,d,rfl,SD,I⟩;haveI:Tab V1:=Tab.sub (V:=V) inferInstance s1;refine⟨_,_,_,_,_,_,_,_,rfl,Tri.mono (Nu I) ?_⟩;have G0:Ao d (BX d Ai):=by rw[LF SD];exact Ao.same ls_good SD
 rintro _ V2 ⟨s2,⟨hG,-⟩|⟨G,p,D,v,rfl,hD,hv,C,E,B⟩⟩;·exact absurd G0 hG
 have A2:=Cs.new G hv C E B;have e0:(⟨(BX d Ai).plain,[],1⟩:PV)=Dd:=by rw[LF SD];rfl
 rw[e0]at A2;refine⟨_,_,rfl,λ_=>⟨λh=>absurd h nn,λ_ b hb=>?_⟩,λh=>absurd rfl h⟩;obtain⟨A3,w⟩:=A2.pub hb (.cells #[.int .i64 5,.int .i64 7] 3 (0,0));have r3:=Ji (V:=D) (b:=b) 5 7;obtain⟨M,K⟩:∃M,M=D.set b (.cells #[.int .i64 5,.int .i64 7] 3 (0,0)):=⟨_,rfl⟩;rw[<-K]at A3 w r3;have d3:=hD.trans w;have T:∀j:Nat,j<2->∃k:Int,([5,7]:List Int)[j]?=some k/\∀{b:Int}{l:Sl},lsDo 100 ([Dd,lsV1,lsV2].take (j+1)) (Im b l k)=(0,0,[Dd,lsV1,lsV2].take (j+2)):=λj hj=>by
  match j,hj with
  |0,_=>exact⟨5,rfl,ls_1⟩
  |1,_=>exact⟨7,rfl,ls_2⟩
 refine⟨λr ys U=>∃(j:Nat)(u:Mem),r=2-j/\j<=2/\ys=[.bool false,.int .i64 j]/\M.sub u/\Cs u U p d ([Dd,lsV1,lsV2].take (j+1)),2,⟨0,M,rfl,by omega,rfl,Mem.sub.refl _,A3⟩,?_⟩;rintro r U v11 v12 ⟨j,u,rfl,hj,q,g,s⟩ J hJ;simp only[List.cons.injEq,and_true]at q;obtain⟨q1,q2⟩:=q;cases inj_b _ _ q1;cases Cu _ _ q2;have N:=d3.trans g;refine⟨λf=>?_,λZ=>?_⟩
 ·have f:(j:Int)<2:=f;obtain⟨k,hk,hdo⟩:=T j (by omega);obtain⟨z,-,hz,-,-,hp1,hz1,Y⟩:=(r3.sub (g.trans s.sub)).get (i:=j) (by omega);rw[hk]at hz;cases hz;refine⟨nn,by omega,f,k,Y,λb5 hb5=>?_⟩;obtain⟨A5,t⟩:=s.pub hb5 (.cells #[.int .i64 k] 3 (0,0));haveI:Tab (u.set b5 (.cells #[.int .i64 k] 3 (0,0))):=Tab.sub (V:=V1) inferInstance (N.trans t);refine Tri.mono (A5.call (F:=100) (a:=0) (b:=0) (nm:=Il) (l:=⟨some ⟨b5,0,none⟩,1,1⟩) (args:=[k]) (I.sub (N.trans t)) (.inl (by decide)) (FP k) (by grind)) ?_;intro e V6 Q;obtain⟨D6,a1,a2,a3,h1,R,rfl⟩:=stepL SD hdo Q;have hl:(([Dd,lsV1,lsV2].take (j+1)).length:Int)=(j:Int)+1:=by simp_all
  rw[hl];exact⟨_,_,_,_,_,_,_,rfl,⟨by omega,by omega⟩,λ_=>⟨λ_=>⟨λ_=>⟨⟨by omega,by omega⟩,hJ _ _ _ (show 2-(j+1)<2-j by omega) ⟨j+1,D6,rfl,by omega,rfl,g.trans (t.trans h1),R⟩⟩,λh=>absurd rfl h⟩,λh=>absurd rfl h⟩,λh=>absurd rfl h⟩
 ·have Z:¬(j:Int)<2:=Z;obtain rfl:j=2:=by omega
  have s:Cs u U p d [Dd,lsV1,lsV2]:=s;haveI:Tab u:=Tab.sub (V:=V1) inferInstance N;refine Tri.mono (s.meld (F:=100) (a:=1) (b:=2) (nm:=lsApp) (l:=Ai) (args:=[]) (I.sub N) (.inl (by decide)) (by decide)) ?_;intro e V5 Q;obtain⟨D5,a1,a2,a3,h5,A5,rfl⟩:=stepL SD ls_3 Q;have d5:=N.trans h5;haveI:Tab D5:=Tab.sub (V:=V1) inferInstance d5;refine⟨_,_,_,_,_,_,_,rfl,Tri.mono (A5.meld (F:=100) (a:=3) (b:=3) (nm:=lsApp) (l:=Ai) (args:=[]) (I.sub d5) (.inl (by decide)) (by decide)) ?_⟩;intro e V6 Q;obtain⟨D6,a4,a5,a6,h6,R,rfl⟩:=stepL SD ls_4 Q;have sV:V.sub V6:=s1.trans (d5.trans (h6.trans R.sub));obtain⟨vs,k,P,H⟩:=R;obtain⟨W,hDW,hWV,L,S⟩:=H.bs.use;have hvl:vs.length=5:=by
   have:=congrArg List.length P;simpa using this
  have h4:(vs.map Vr.pv)[4]?=some lsV4:=by rw[P];rfl
  rw[y6,Option.map_eq_some_iff]at h4;obtain⟨X,hv4,O⟩:=h4;have hm4:X.m.plain=lsV4.m:=congrArg PV.m O;have hn4:X.m.ns.n=4:=by
   rw[(H.ok X (List.mem_of_getElem? hv4)).mem.nodes.n_eq];have:=congrArg (λy:List Int×List (Int×List Int)=>y.2.length) hm4;simpa [Mm.plain,lsV4]using this
  have hw4:X.paths=4:=congrArg PV.paths O;have c4:CD 0 vs.length [4]=0:=by rw[GB,if_pos (by omega)]
  have z4:Fi vs 4=4:=by
   grind[Fi]
  have f4:Fj vs 4=4:=by
   grind[Fj]
  have cs:=Nr S (v:=4);have ce:=Ns S (v:=4);rw[c4,z4]at cs;rw[c4,f4]at ce;refine⟨_,_,_,_,_,_,_,rfl,cs.call ⟨_,_,rfl,ce.call ⟨_,_,rfl,λ_=>⟨λ_=>⟨λ_=>⟨λ_=>⟨λ_=>⟨λ_=>⟨λ_=>⟨rfl,sV⟩,λh=>absurd rfl h⟩,λh=>absurd rfl h⟩,λh=>absurd rfl h⟩,λh=>absurd rfl h⟩,λh=>absurd rfl h⟩,λh=>absurd rfl h⟩,λh=>absurd rfl h⟩⟩⟩
end
end Go.Proofs
