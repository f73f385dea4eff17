/- Part 22: no statement of the seat is proved here. -/
import Derived.Test.YtejinebghgaigaaGreatDoorPr16
import Derived.Test.YtejinebghgaigaaGreatDoorPr19
import Derived.Test.YtejinebghgaigaaGreatDoorPr21
set_option linter.unusedVariables false
set_option linter.unusedSimpArgs false
open Go.Proofs.Tryz renaming prog->xE,call39->uF,call41->uG,call40->uH,call42->uJ,f11->uK
open List renaming map_cons->zG,lookup_cons->zd,map_singleton->ve,mem_singleton->zO,mem_cons->yC,map_nil->xu,not_mem_nil->xC,getElem?_map->y4,length_map->xm
open Go.IntKind renaming i64->yu
open Array renaming replicate->wE
namespace Go.Proofs
open Go Go.Sx
attribute [local irreducible] Go.Sx.Tri
def Bu:KB:=Ac [67]
def E1:KB:=Ac [110]
def Dh:KB:=Ac [110,101,120,116]
def CM:KB:=Ac [102,105,114,115,116]
def Ej:KB:=Ac [107]
def AW:KB:=Ac [99]
def Ek:KB:=Ac [108]
def lsPush:KB:=Ac [112,117,115,104]
def lsApp:KB:=Ac [97,112,112,101,110,100]
def lsLists:KB:=Ac [108,105,115,116,115]
def Bn(s:KB):E:=.mk 4 0 s Aj []
def lsNew:E:=.mk 6 0 Bu Aj []
def lsNil:E:=.mk 3 0 sE Aj []
def lsNx:E:=.mk 5 0 Dh Aj [Bn AW]
def lsNe:E:=.mk 15 0 sE Aj [lsNx,lsNil]
def E2(s:KB)(e:E):S:=.mk 1 s Aj [e] Aj [] Aj []
def Hb(s:KB)(e f:E):S:=.mk 2 s Aj [e,f] Aj [] Aj []
def lsWh:S:=.mk 4 sE Aj [lsNe] Aj [E2 AW lsNx] Aj []
def lsPr1:Pr:=⟨lsPush,Aj,[⟨Ej,Ai⟩],sE,Aj,[⟨AW,Bu⟩],Aj,[E2 AW lsNew,Hb E1 (Bn AW) (Bn Ej),Hb Dh (Bn AW) (Bn CM),E2 CM (Bn AW)]⟩
def lsPr2:Pr:=⟨lsApp,Aj,[⟨Ek,Bu⟩],sE,Aj,[⟨AW,Bu⟩],Aj,[E2 AW (Bn CM),lsWh,Hb Dh (Bn AW) (Bn Ek)]⟩
def lsTy:Ty:=⟨Bu,Aj,[⟨E1,Ai⟩,⟨Dh,Bu⟩]⟩
def Du:Ds:=⟨lsLists,Aj,[lsTy],Aj,[⟨CM,Bu⟩],Aj,[lsPr1,lsPr2],Aj,[],Aj,[],Aj,[],Aj,[]⟩
def lsX:Value:=.func (.func 39) #[] #[]
def AK(b:Nat):Value:=.func (.func 40) #[] #[pv b]
def lsS:Value:=.func (.func 41) #[] #[]
def lsP:Value:=.func (.func 42) #[] #[]
def lE(x:E)(v:Value)(A:Mem):Prop:=∃e,v=e.v/\De e=x/\E.Ok A e
def lL(xs:List E)(v:Value)(A:Mem):Prop:=∃(s:Sl)(es:List E),v=s.v/\es.map De=xs/\Ad A s 4 (es.map E.row)/\∀e∈es,E.Ok A e
def lS(x:S)(v:Value)(A:Mem):Prop:=∃(op:Int)(s:KB)(l:Sl)(es:List E)(k:Sl)(ss:List S),v=(S.mk op s l es k ss ⟨none,0,0⟩ []).v/\Dr (S.mk op s l es k ss ⟨none,0,0⟩ [])=x/\S.Ok A (S.mk op s l es k ss ⟨none,0,0⟩ [])
def lB(xs:List S)(v:Value)(A:Mem):Prop:=∃(s:Sl)(es:List S),v=s.v/\es.map Dr=xs/\Ad A s 5 (es.map S.row)/\∀e∈es,S.Ok A e
def lF(fs:List Fld)(v:Value)(A:Mem):Prop:=∃s:Sl,v=s.v/\Ad A s 2 (fs.map Fld.row)
def lT(v:Value)(A:Mem):Prop:=∃t:Ty,v=.agg t.row.toArray/\tEr t=lsTy/\Ty.Ok A t
def Jm(v:Value)(A:Mem):Prop:=∃(s:Sl)(t:Ty),v=s.v/\tEr t=lsTy/\Ad A s 2 ([t].map Ty.row)/\Ty.Ok A t
def lP(q:Pr)(v:Value)(A:Mem):Prop:=∃p:Pr,v=p.v/\pEr p=q/\Pr.Ok A p
def Jn(v:Value)(A:Mem):Prop:=∃(s:Sl)(p q:Pr),v=s.v/\pEr p=lsPr1/\pEr q=lsPr2/\Ad A s 5 ([p,q].map Pr.row)/\Pr.Ok A p/\Pr.Ok A q
def lD(v:Value)(A:Mem):Prop:=∃d:Ds,v=d.v/\Fq Du d/\Ds.Ok A d
section
variable{A B:Mem}{v:Value}(hs:A.sub B)
include hs
theorem lE.mono{x:E}(h:lE x v A):lE x v B:=by obtain⟨e,a,b,c⟩:=h;exact⟨e,a,b,c.sub hs⟩
theorem lL.mono{x:List E}(h:lL x v A):lL x v B:=by obtain⟨s,es,a,b,c,d⟩:=h;exact⟨s,es,a,b,c.sub hs,λe k=>(d e k).sub hs⟩
theorem lS.mono{x:S}(h:lS x v A):lS x v B:=by obtain⟨o,s,l,es,k,ss,a,b,c⟩:=h;exact⟨o,s,l,es,k,ss,a,b,c.sub hs⟩
theorem lB.mono{x:List S}(h:lB x v A):lB x v B:=by obtain⟨s,es,a,b,c,d⟩:=h;exact⟨s,es,a,b,c.sub hs,λe k=>(d e k).sub hs⟩
theorem lF.mono{f:List Fld}(h:lF f v A):lF f v B:=by obtain⟨s,a,b⟩:=h;exact⟨s,a,b.sub hs⟩
theorem lT.mono(h:lT v A):lT v B:=by obtain⟨t,a,b,c⟩:=h;exact⟨t,a,b,c.sub hs⟩
theorem Jm.mono(h:Jm v A):Jm v B:=by obtain⟨s,t,a,b,c,d⟩:=h;exact⟨s,t,a,b,c.sub hs,d.sub hs⟩
theorem Kc{p:Pr}(h:Pr.Ok A p):Pr.Ok B p:=⟨h.params.sub hs,h.locals.sub hs,h.body.sub hs,λs k=>(h.stmts s k).sub hs⟩
theorem lP.mono{q:Pr}(h:lP q v A):lP q v B:=by obtain⟨p,a,b,c⟩:=h;exact⟨p,a,b,Kc hs c⟩
theorem Jn.mono(h:Jn v A):Jn v B:=by obtain⟨s,p,q,a,b,c,d,e,f⟩:=h;exact⟨s,p,q,a,b,c,d.sub hs,Kc hs e,Kc hs f⟩
theorem lD.mono(h:lD v A):lD v B:=by obtain⟨d,a,b,c⟩:=h;exact⟨d,a,b,c.sub hs⟩
end
def Af:Nat->List Nat
 |2=>[0,1]
 |3=>[2]
 |4=>[3]
 |6=>[5]
 |8=>[7]
 |12=>[11]
 |13=>[10,12]
 |16=>[15]
 |18=>[17]
 |19=>[14,16,18]
 |22=>[21]
 |24=>[23]
 |25=>[20,22,24]
 |28=>[27]
 |29=>[26,28]
 |30=>[13,19,25,29]
 |31=>[8,9,30]
 |33=>[32]
 |37=>[36]
 |38=>[35,37]
 |42=>[41]
 |43=>[42]
 |44=>[40,43]
 |46=>[44,45]
 |47=>[39,46]
 |48=>[47]
 |52=>[51]
 |53=>[52]
 |54=>[50,53]
 |55=>[49,54]
 |56=>[55]
 |57=>[48,56]
 |60=>[59]
 |62=>[61]
 |63=>[58,60,62]
 |64=>[38,57,63]
 |65=>[33,34,64]
 |66=>[31,65]
 |67=>[4,6,66]
 |68=>[67]
 |_=>[]
def AI(b1:Nat)(A:Mem):Nat->Value->Prop
 |0,v=>v=.agg #[uS E1,uS Ai]
 |1,v=>v=.agg #[uS Dh,uS Bu]
 |2,v=>lF [⟨E1,Ai⟩,⟨Dh,Bu⟩] v A
 |3,v=>lT v A
 |4,v=>Jm v A
 |5,v=>v=.agg #[uS CM,uS Bu]
 |6,v=>lF [⟨CM,Bu⟩] v A
 |7,v=>v=.agg #[uS Ej,uS Ai]
 |8,v=>lF [⟨Ej,Ai⟩] v A
 |9,v=>lF [⟨AW,Bu⟩] v A
 |10,v=>v=lsS
 |11,v=>v=lsX
 |12,v=>lE lsNew v A
 |13,v=>lS (E2 AW lsNew) v A
 |14,v=>v=lsP
 |15,v=>v=(AK b1)
 |16,v=>lE (Bn AW) v A
 |17,v=>v=(AK b1)
 |18,v=>lE (Bn Ej) v A
 |19,v=>lS (Hb E1 (Bn AW) (Bn Ej)) v A
 |20,v=>v=lsP
 |21,v=>v=(AK b1)
 |22,v=>lE (Bn AW) v A
 |23,v=>v=(AK b1)
 |24,v=>lE (Bn CM) v A
 |25,v=>lS (Hb Dh (Bn AW) (Bn CM)) v A
 |26,v=>v=lsS
 |27,v=>v=(AK b1)
 |28,v=>lE (Bn AW) v A
 |29,v=>lS (E2 CM (Bn AW)) v A
 |30,v=>lB lsPr1.body v A
 |31,v=>lP lsPr1 v A
 |32,v=>v=.agg #[uS Ek,uS Bu]
 |33,v=>lF [⟨Ek,Bu⟩] v A
 |34,v=>lF [⟨AW,Bu⟩] v A
 |35,v=>v=lsS
 |36,v=>v=(AK b1)
 |37,v=>lE (Bn CM) v A
 |38,v=>lS (E2 AW (Bn CM)) v A
 |39,v=>v=lsX
 |40,v=>v=lsX
 |41,v=>v=(AK b1)
 |42,v=>lE (Bn AW) v A
 |43,v=>lL [Bn AW] v A
 |44,v=>lE lsNx v A
 |45,v=>lE lsNil v A
 |46,v=>lL [lsNx,lsNil] v A
 |47,v=>lE lsNe v A
 |48,v=>lL [lsNe] v A
 |49,v=>v=lsS
 |50,v=>v=lsX
 |51,v=>v=(AK b1)
 |52,v=>lE (Bn AW) v A
 |53,v=>lL [Bn AW] v A
 |54,v=>lE lsNx v A
 |55,v=>lS (E2 AW lsNx) v A
 |56,v=>lB [E2 AW lsNx] v A
 |57,v=>lS lsWh v A
 |58,v=>v=lsP
 |59,v=>v=(AK b1)
 |60,v=>lE (Bn AW) v A
 |61,v=>v=(AK b1)
 |62,v=>lE (Bn Ek) v A
 |63,v=>lS (Hb Dh (Bn AW) (Bn Ek)) v A
 |64,v=>lB lsPr2.body v A
 |65,v=>lP lsPr2 v A
 |66,v=>Jn v A
 |67,v=>lD v A
 |_,_=>True
theorem lsQ_mono{b1:Nat}{A B:Mem}(hs:A.sub B):∀(i:Nat)(v:Value),AI b1 A i v->AI b1 B i v
 |0,_,h=>h
 |1,_,h=>h
 |2,_,h=>lF.mono hs h
 |3,_,h=>lT.mono hs h
 |4,_,h=>Jm.mono hs h
 |5,_,h=>h
 |6,_,h=>lF.mono hs h
 |7,_,h=>h
 |8,_,h=>lF.mono hs h
 |9,_,h=>lF.mono hs h
 |10,_,h=>h
 |11,_,h=>h
 |12,_,h=>lE.mono hs h
 |13,_,h=>lS.mono hs h
 |14,_,h=>h
 |15,_,h=>h
 |16,_,h=>lE.mono hs h
 |17,_,h=>h
 |18,_,h=>lE.mono hs h
 |19,_,h=>lS.mono hs h
 |20,_,h=>h
 |21,_,h=>h
 |22,_,h=>lE.mono hs h
 |23,_,h=>h
 |24,_,h=>lE.mono hs h
 |25,_,h=>lS.mono hs h
 |26,_,h=>h
 |27,_,h=>h
 |28,_,h=>lE.mono hs h
 |29,_,h=>lS.mono hs h
 |30,_,h=>lB.mono hs h
 |31,_,h=>lP.mono hs h
 |32,_,h=>h
 |33,_,h=>lF.mono hs h
 |34,_,h=>lF.mono hs h
 |35,_,h=>h
 |36,_,h=>h
 |37,_,h=>lE.mono hs h
 |38,_,h=>lS.mono hs h
 |39,_,h=>h
 |40,_,h=>h
 |41,_,h=>h
 |42,_,h=>lE.mono hs h
 |43,_,h=>lL.mono hs h
 |44,_,h=>lE.mono hs h
 |45,_,h=>lE.mono hs h
 |46,_,h=>lL.mono hs h
 |47,_,h=>lE.mono hs h
 |48,_,h=>lL.mono hs h
 |49,_,h=>h
 |50,_,h=>h
 |51,_,h=>h
 |52,_,h=>lE.mono hs h
 |53,_,h=>lL.mono hs h
 |54,_,h=>lE.mono hs h
 |55,_,h=>lS.mono hs h
 |56,_,h=>lB.mono hs h
 |57,_,h=>lS.mono hs h
 |58,_,h=>h
 |59,_,h=>h
 |60,_,h=>lE.mono hs h
 |61,_,h=>h
 |62,_,h=>lE.mono hs h
 |63,_,h=>lS.mono hs h
 |64,_,h=>lB.mono hs h
 |65,_,h=>lP.mono hs h
 |66,_,h=>Jn.mono hs h
 |67,_,h=>lD.mono hs h
 |_+68,_,_=>trivial
def Aq(b0:Nat)(V:Mem):Mem:=λc=>if c=b0 then none else V c
theorem lsO_ne{b0 c:Nat}{A:Mem}(h:c≠b0):Aq b0 A c=A c:=if_neg h
theorem lsO_no{b0 c:Nat}{A:Mem}(h:c=b0):Aq b0 A c=none:=if_pos h
theorem LF{b0:Nat}{A B:Mem}(h:A.sub B):(Aq b0 A).sub (Aq b0 B):=λc o k=>by
 by_cases e:c=b0;·grind[lsO_no]
 ·rw[lsO_ne e]at k⊢;exact h _ _ k
theorem lsO_le{b0:Nat}{A:Mem}:(Aq b0 A).sub A:=λc o h=>by
 grind[lsO_no,lsO_ne]
def lsBase(b0 b1:Nat)(sl:Sl):List (Nat×Value):=[(0,pv b0),(1,pv b1),(2,AK b1),(3,lsS),(4,lsP),(5,sl.v)]
structure AO (V:Mem)(b0 b1:Nat)(sl:Sl):Prop where
 z:∃o,V b0=some o
 x:V b1=some (.cells #[lsX] 105 (0,0))
 c:Ad (Aq b0 V) sl 2 ([(⟨AW,Bu⟩:Fld)].map Fld.row)
def AT(i:Nat)(b0 b1:Nat)(sl:Sl)(V1:Mem)(val:Nat->Value):Prop:=∃h,(∀s v,h.lookup s=some v->(lsBase b0 b1 sl).lookup s=some v∨∃j∈Af i,s=9+j/\v=val j)/\Ay xE 77 AH i 1 h [9+i] V1 λvs V2=>∃v,vs=[v]/\V1.sub V2/\AI b1 (Aq b0 V2) i v
theorem BN{val:Nat->Value}:∀{l:List Nat}{s:Nat}{v:Value},(l.map λj=>(9+j,val j)).lookup s=some v->∃j∈l,s=9+j/\v=val j
 |[],_,_,h=>by cases h
 |j::l,s,v,h=>by
  rw[zG,zd]at h;split at h;·simp_all
  ·obtain⟨k,g,h1⟩:=BN h;grind
theorem C9{k s:Nat}{x v:Value}(h:[(k,x)].lookup s=some v):s=k/\v=x:=by
 grind
theorem lsIn0{s:Nat}{v:Value}{Q:Prop}(h:([]:List (Nat×Value)).lookup s=some v):Q:=by cases h
section
variable{V V1:Mem}{b0 b1:Nat}{sl:Sl}{val:Nat->Value}
theorem DK(g:AO V b0 b1 sl)(hs:V.sub V1){b:Nat}(k:V1 b=none)(o:Obj):Aq b0 (V1.set b o) b=some o:=by
 have h:b≠b0:=λe=>by
  obtain⟨o,f⟩:=g.z;rw[e,hs _ _ f]at k;cases k
 rw[lsO_ne h];exact Mem.set_same _ _ _
theorem CW{b:Nat}(h:V1 b=none)(o:Obj):(Aq b0 V1).sub (Aq b0 (V1.set b o)):=LF (Mem.sub_new h o)
theorem Kd{op:Int}{s:KB}{l:Sl}:PP 39 [.int .i64 op,.string s,l.v] V (.agg #[.int .i64 op,.int .i64 0,.string s,l.v]):=by
 refine PE ?_;exact⟨rfl,rfl⟩
theorem Gt{s:KB}(h:V b1=some (.cells #[lsX] 105 (0,0))):PP 40 [.string s,pv b1] V (Bn s).v:=by
 refine PF ?_;exact⟨lsX,rfl,An h 0 1 (by simp),39,#[],#[],rfl,uF,(Kd (op:=4) (s:=s) (l:=Aj)).callv (first:=[]) (caps:=[]) ⟨_,_,_,_,rfl,rfl,rfl⟩⟩
theorem Ey{A:Mem}{n:Nat}:Ad A ⟨none,0,0⟩ n []:=Ad.nil
theorem lsEk{A:Mem}{op:Int}{s:KB}(h:yu.min<=op/\op<=yu.max):E.Ok A (.mk op 0 s ⟨none,0,0⟩ []):=.mk Ey (λ_ h=>by simp at h) h (by decide)
end
section
variable{V V1:Mem}{b0 b1:Nat}{sl:Sl}{val:Nat->Value}
theorem RC(k:AO V b0 b1 sl)(hs:V.sub V1)(hv:∀j∈Af 0,AI b1 (Aq b0 V1) j (val j)):AT 0 b0 b1 sl V1 val:=by
 have _:=k.z;have _:=hs;have _:=hv;exact⟨[],λ_ _ h=>lsIn0 h,s11o0 ⟨_,rfl,.agg #[uS E1,uS Ai],rfl,Mem.sub.refl _,rfl⟩⟩
theorem Nf(k:AO V b0 b1 sl)(hs:V.sub V1)(hv:∀j∈Af 1,AI b1 (Aq b0 V1) j (val j)):AT 1 b0 b1 sl V1 val:=by
 have _:=k.z;have _:=hs;have _:=hv;exact⟨[],λ_ _ h=>lsIn0 h,s11o1 ⟨_,rfl,.agg #[uS Dh,uS Bu],rfl,Mem.sub.refl _,rfl⟩⟩
theorem JR(g:AO V b0 b1 sl)(hs:V.sub V1)(hv:∀j∈Af 2,AI b1 (Aq b0 V1) j (val j)):AT 2 b0 b1 sl V1 val:=by
 have f:(val 0)=.agg #[uS E1,uS Ai]:=hv 0 (by simp[Af]);have h1:(val 1)=.agg #[uS Dh,uS Bu]:=hv 1 (by simp[Af]);have eq:[(9,.agg #[uS E1,uS Ai]),(10,.agg #[uS Dh,uS Bu])]=(Af 2).map λj=>(9+j,val j):=by simp[Af,f,h1]
 refine⟨_,λs v h=>.inr (BN (by rw[<-eq];exact h)),s11o2 (a:=E1) (b:=Ai) (c:=Dh) (d:=Bu) ?_⟩;unfold w11o2;intro b k;exact⟨_,rfl,_,rfl,Mem.sub_new k _,⟨some ⟨b,0,none⟩,2,2⟩,rfl,Ad.cells (xs:=[⟨E1,Ai⟩,⟨Dh,Bu⟩]) (row:=Fld.row) (DK g hs k _) rfl (λ_=>rfl) rfl (by simp)⟩
theorem Ib(f:AO V b0 b1 sl)(hs:V.sub V1)(hv:∀j∈Af 3,AI b1 (Aq b0 V1) j (val j)):AT 3 b0 b1 sl V1 val:=by
 have h2:lF [⟨E1,Ai⟩,⟨Dh,Bu⟩] (val 2) (Aq b0 V1):=hv 2 (by simp[Af]);obtain⟨l,k,g⟩:=h2;have eq:[(11,l.v)]=(Af 3).map λj=>(9+j,val j):=by simp[Af,k]
 refine⟨_,λs v h=>.inr (BN (by rw[<-eq];exact h)),s11o3 (a:=l) ⟨_,rfl,_,rfl,Mem.sub.refl _,⟨Bu,l,[⟨E1,Ai⟩,⟨Dh,Bu⟩]⟩,rfl,rfl,⟨g⟩⟩⟩
theorem RD(g:AO V b0 b1 sl)(hs:V.sub V1)(hv:∀j∈Af 4,AI b1 (Aq b0 V1) j (val j)):AT 4 b0 b1 sl V1 val:=by
 have h3:lT (val 3) (Aq b0 V1):=hv 3 (by simp[Af]);obtain⟨x,f,t,u⟩:=h3;have eq:[(12,.agg x.row.toArray)]=(Af 4).map λj=>(9+j,val j):=by simp[Af,f]
 refine⟨_,λs v h=>.inr (BN (by rw[<-eq];exact h)),s11o4 (a:=x.name) (b:=x.fs) ?_⟩;unfold w11o4;intro b k;exact⟨_,rfl,_,rfl,Mem.sub_new k _,⟨some ⟨b,0,none⟩,1,1⟩,x,rfl,t,Ad.cells (xs:=[x]) (row:=Ty.row) (DK g hs k _) rfl (λ_=>rfl) rfl (by simp),u.sub (CW k _)⟩
theorem G8(k:AO V b0 b1 sl)(hs:V.sub V1)(hv:∀j∈Af 5,AI b1 (Aq b0 V1) j (val j)):AT 5 b0 b1 sl V1 val:=by
 have _:=k.z;have _:=hs;have _:=hv;exact⟨[],λ_ _ h=>lsIn0 h,s11o5 ⟨_,rfl,.agg #[uS CM,uS Bu],rfl,Mem.sub.refl _,rfl⟩⟩
theorem RF(g:AO V b0 b1 sl)(hs:V.sub V1)(hv:∀j∈Af 6,AI b1 (Aq b0 V1) j (val j)):AT 6 b0 b1 sl V1 val:=by
 have f:(val 5)=.agg #[uS CM,uS Bu]:=hv 5 (by simp[Af]);have eq:[(14,.agg #[uS CM,uS Bu])]=(Af 6).map λj=>(9+j,val j):=by simp[Af,f]
 refine⟨_,λs v h=>.inr (BN (by rw[<-eq];exact h)),s11o6 (a:=CM) (b:=Bu) ?_⟩;unfold w11o6;intro b k;exact⟨_,rfl,_,rfl,Mem.sub_new k _,⟨some ⟨b,0,none⟩,1,1⟩,rfl,Ad.cells (xs:=[⟨CM,Bu⟩]) (row:=Fld.row) (DK g hs k _) rfl (λ_=>rfl) rfl (by simp)⟩
theorem G7(k:AO V b0 b1 sl)(hs:V.sub V1)(hv:∀j∈Af 7,AI b1 (Aq b0 V1) j (val j)):AT 7 b0 b1 sl V1 val:=by
 have _:=k.z;have _:=hs;have _:=hv;exact⟨[],λ_ _ h=>lsIn0 h,s11o7 ⟨_,rfl,.agg #[uS Ej,uS Ai],rfl,Mem.sub.refl _,rfl⟩⟩
theorem RG(g:AO V b0 b1 sl)(hs:V.sub V1)(hv:∀j∈Af 8,AI b1 (Aq b0 V1) j (val j)):AT 8 b0 b1 sl V1 val:=by
 have f:(val 7)=.agg #[uS Ej,uS Ai]:=hv 7 (by simp[Af]);have eq:[(16,.agg #[uS Ej,uS Ai])]=(Af 8).map λj=>(9+j,val j):=by simp[Af,f]
 refine⟨_,λs v h=>.inr (BN (by rw[<-eq];exact h)),s11o8 (a:=Ej) (b:=Ai) ?_⟩;unfold w11o8;intro b k;exact⟨_,rfl,_,rfl,Mem.sub_new k _,⟨some ⟨b,0,none⟩,1,1⟩,rfl,Ad.cells (xs:=[⟨Ej,Ai⟩]) (row:=Fld.row) (DK g hs k _) rfl (λ_=>rfl) rfl (by simp)⟩
theorem RH(k:AO V b0 b1 sl)(hs:V.sub V1)(hv:∀j∈Af 9,AI b1 (Aq b0 V1) j (val j)):AT 9 b0 b1 sl V1 val:=by
 have _:=k.z;have _:=hs;have _:=hv;exact⟨[(5,sl.v)],λs v h=>.inl (by obtain⟨rfl,rfl⟩:=C9 h;rfl),s11o9 (a:=sl) ⟨_,rfl,sl.v,rfl,Mem.sub.refl _,sl,rfl,k.c.sub (LF hs)⟩⟩
theorem ls10(k:AO V b0 b1 sl)(hs:V.sub V1)(hv:∀j∈Af 10,AI b1 (Aq b0 V1) j (val j)):AT 10 b0 b1 sl V1 val:=by
 have _:=k.z;have _:=hs;have _:=hv;exact⟨[(3,lsS)],λs v h=>.inl (by obtain⟨rfl,rfl⟩:=C9 h;rfl),s11o10 (a:=lsS) ⟨_,rfl,lsS,rfl,Mem.sub.refl _,rfl⟩⟩
theorem ls11(k:AO V b0 b1 sl)(hs:V.sub V1)(hv:∀j∈Af 11,AI b1 (Aq b0 V1) j (val j)):AT 11 b0 b1 sl V1 val:=by
 have _:=k.z;have _:=hs;have _:=hv;exact⟨[(1,pv b1)],λs v h=>.inl (by obtain⟨rfl,rfl⟩:=C9 h;rfl),s11o11 (a:=some ⟨b1,0,none⟩) ⟨lsX,rfl,An (hs _ _ k.x) 0 1 (by simp),_,rfl,lsX,rfl,Mem.sub.refl _,rfl⟩⟩
theorem ls12(g:AO V b0 b1 sl)(hs:V.sub V1)(hv:∀j∈Af 12,AI b1 (Aq b0 V1) j (val j)):AT 12 b0 b1 sl V1 val:=by
 have k:(val 11)=lsX:=hv 11 (by simp[Af]);have eq:[(20,lsX)]=(Af 12).map λj=>(9+j,val j):=by simp[Af,k]
 refine⟨_,λs v h=>.inr (BN (by rw[<-eq];exact h)),s11o12 (a:=lsX) ?_⟩;unfold w11o12;exact⟨39,#[],#[],rfl,uF,(Kd (op:=6) (s:=Bu) (l:=Aj)).callv (first:=[]) (caps:=[]) ⟨_,_,_,_,rfl,_,rfl,_,rfl,Mem.sub.refl _,.mk 6 0 Bu ⟨none,0,0⟩ [],rfl,rfl,lsEk (by decide)⟩⟩
theorem ls13(u:AO V b0 b1 sl)(hs:V.sub V1)(hv:∀j∈Af 13,AI b1 (Aq b0 V1) j (val j)):AT 13 b0 b1 sl V1 val:=by
 have k:(val 10)=lsS:=hv 10 (by simp[Af]);have f:lE lsNew (val 12) (Aq b0 V1):=hv 12 (by simp[Af]);obtain⟨e,w,y,i⟩:=f;have eq:[(19,lsS),(21,e.v)]=(Af 13).map λj=>(9+j,val j):=by simp[Af,k,w]
 refine⟨_,λs v h=>.inr (BN (by rw[<-eq];exact h)),s11o13 (a:=lsS) (b:=e.op) (c:=e.n) (d:=e.s) (g:=e.l) ?_⟩;unfold w11o13;refine⟨41,#[],#[],rfl,uG,KA ?_⟩;intro b t;exact⟨_,_,_,_,_,rfl,_,rfl,_,rfl,Mem.sub_new t _,1,AW,⟨some ⟨b,0,none⟩,1,1⟩,[e],⟨none,0,0⟩,[],rfl,by unfold Dr;rw[EN,ve,y];rfl,.mk (Ad.cells (xs:=[e]) (row:=E.row) (DK u hs t _) rfl (λ_=>rfl) rfl (by simp)) (λx r=>by rw[zO.1 r];exact i.sub (CW t _)) Ey (λ_ h=>by simp at h) Ey (λ_ h=>by simp at h) (by decide)⟩
theorem ls14(k:AO V b0 b1 sl)(hs:V.sub V1)(hv:∀j∈Af 14,AI b1 (Aq b0 V1) j (val j)):AT 14 b0 b1 sl V1 val:=by
 have _:=k.z;have _:=hs;have _:=hv;exact⟨[(4,lsP)],λs v h=>.inl (by obtain⟨rfl,rfl⟩:=C9 h;rfl),s11o14 (a:=lsP) ⟨_,rfl,lsP,rfl,Mem.sub.refl _,rfl⟩⟩
theorem ls15(k:AO V b0 b1 sl)(hs:V.sub V1)(hv:∀j∈Af 15,AI b1 (Aq b0 V1) j (val j)):AT 15 b0 b1 sl V1 val:=by
 have _:=k.z;have _:=hs;have _:=hv;exact⟨[(2,(AK b1))],λs v h=>.inl (by obtain⟨rfl,rfl⟩:=C9 h;rfl),s11o15 (a:=(AK b1)) ⟨_,rfl,(AK b1),rfl,Mem.sub.refl _,rfl⟩⟩
theorem ls16(g:AO V b0 b1 sl)(hs:V.sub V1)(hv:∀j∈Af 16,AI b1 (Aq b0 V1) j (val j)):AT 16 b0 b1 sl V1 val:=by
 have k:(val 15)=(AK b1):=hv 15 (by simp[Af]);have eq:[(24,AK b1)]=(Af 16).map λj=>(9+j,val j):=by simp[Af,k]
 refine⟨_,λs v h=>.inr (BN (by rw[<-eq];exact h)),s11o16 (a:=AK b1) ?_⟩;unfold w11o16;exact⟨40,#[],#[pv b1],rfl,uH,(Gt (s:=AW) (hs _ _ g.x)).callv (first:=[]) (caps:=[pv b1]) ⟨_,_,_,_,rfl,_,rfl,_,rfl,Mem.sub.refl _,.mk 4 0 AW ⟨none,0,0⟩ [],rfl,rfl,lsEk (by decide)⟩⟩
theorem ls17(k:AO V b0 b1 sl)(hs:V.sub V1)(hv:∀j∈Af 17,AI b1 (Aq b0 V1) j (val j)):AT 17 b0 b1 sl V1 val:=by
 have _:=k.z;have _:=hs;have _:=hv;exact⟨[(2,(AK b1))],λs v h=>.inl (by obtain⟨rfl,rfl⟩:=C9 h;rfl),s11o17 (a:=(AK b1)) ⟨_,rfl,(AK b1),rfl,Mem.sub.refl _,rfl⟩⟩
theorem ls18(g:AO V b0 b1 sl)(hs:V.sub V1)(hv:∀j∈Af 18,AI b1 (Aq b0 V1) j (val j)):AT 18 b0 b1 sl V1 val:=by
 have k:(val 17)=(AK b1):=hv 17 (by simp[Af]);have eq:[(26,AK b1)]=(Af 18).map λj=>(9+j,val j):=by simp[Af,k]
 refine⟨_,λs v h=>.inr (BN (by rw[<-eq];exact h)),s11o18 (a:=AK b1) ?_⟩;unfold w11o18;exact⟨40,#[],#[pv b1],rfl,uH,(Gt (s:=Ej) (hs _ _ g.x)).callv (first:=[]) (caps:=[pv b1]) ⟨_,_,_,_,rfl,_,rfl,_,rfl,Mem.sub.refl _,.mk 4 0 Ej ⟨none,0,0⟩ [],rfl,rfl,lsEk (by decide)⟩⟩
theorem ls19(q:AO V b0 b1 sl)(hs:V.sub V1)(hv:∀j∈Af 19,AI b1 (Aq b0 V1) j (val j)):AT 19 b0 b1 sl V1 val:=by
 have u:(val 14)=lsP:=hv 14 (by simp[Af]);have w:lE (Bn AW) (val 16) (Aq b0 V1):=hv 16 (by simp[Af]);have y:lE (Bn Ej) (val 18) (Aq b0 V1):=hv 18 (by simp[Af]);obtain⟨e,H,J,G⟩:=w;obtain⟨f,N,f2,f3⟩:=y;have eq:[(23,lsP),(25,e.v),(27,f.v)]=(Af 19).map λj=>(9+j,val j):=by simp[Af,u,H,N]
 refine⟨_,λs v h=>.inr (BN (by rw[<-eq];exact h)),s11o19 (a:=lsP) (b:=e.op) (c:=e.n) (d:=e.s) (g:=e.l) (i:=f.op) (j:=f.n) (k:=f.s) (l:=f.l) ?_⟩;unfold w11o19;refine⟨42,#[],#[],rfl,uJ,Mi ?_⟩;intro b t;exact⟨_,_,_,_,_,rfl,_,rfl,_,rfl,Mem.sub_new t _,2,E1,⟨some ⟨b,0,none⟩,2,2⟩,[e,f],⟨none,0,0⟩,[],rfl,by unfold Dr;rw[EN,zG,ve,J,f2];rfl,.mk (Ad.cells (xs:=[e,f]) (row:=E.row) (DK q hs t _) rfl (λ_=>rfl) rfl (by simp)) (λx r=>by
  rcases yC.1 r with rfl|r;·exact G.sub (CW t _)
  ·rw[zO.1 r];exact f3.sub (CW t _)) Ey (λ_ h=>by simp at h) Ey (λ_ h=>by simp at h) (by decide)⟩
theorem ls20(k:AO V b0 b1 sl)(hs:V.sub V1)(hv:∀j∈Af 20,AI b1 (Aq b0 V1) j (val j)):AT 20 b0 b1 sl V1 val:=by
 have _:=k.z;have _:=hs;have _:=hv;exact⟨[(4,lsP)],λs v h=>.inl (by obtain⟨rfl,rfl⟩:=C9 h;rfl),s11o20 (a:=lsP) ⟨_,rfl,lsP,rfl,Mem.sub.refl _,rfl⟩⟩
theorem ls21(k:AO V b0 b1 sl)(hs:V.sub V1)(hv:∀j∈Af 21,AI b1 (Aq b0 V1) j (val j)):AT 21 b0 b1 sl V1 val:=by
 have _:=k.z;have _:=hs;have _:=hv;exact⟨[(2,(AK b1))],λs v h=>.inl (by obtain⟨rfl,rfl⟩:=C9 h;rfl),s11o21 (a:=(AK b1)) ⟨_,rfl,(AK b1),rfl,Mem.sub.refl _,rfl⟩⟩
theorem ls22(g:AO V b0 b1 sl)(hs:V.sub V1)(hv:∀j∈Af 22,AI b1 (Aq b0 V1) j (val j)):AT 22 b0 b1 sl V1 val:=by
 have k:(val 21)=(AK b1):=hv 21 (by simp[Af]);have eq:[(30,AK b1)]=(Af 22).map λj=>(9+j,val j):=by simp[Af,k]
 refine⟨_,λs v h=>.inr (BN (by rw[<-eq];exact h)),s11o22 (a:=AK b1) ?_⟩;unfold w11o22;exact⟨40,#[],#[pv b1],rfl,uH,(Gt (s:=AW) (hs _ _ g.x)).callv (first:=[]) (caps:=[pv b1]) ⟨_,_,_,_,rfl,_,rfl,_,rfl,Mem.sub.refl _,.mk 4 0 AW ⟨none,0,0⟩ [],rfl,rfl,lsEk (by decide)⟩⟩
theorem ls23(k:AO V b0 b1 sl)(hs:V.sub V1)(hv:∀j∈Af 23,AI b1 (Aq b0 V1) j (val j)):AT 23 b0 b1 sl V1 val:=by
 have _:=k.z;have _:=hs;have _:=hv;exact⟨[(2,(AK b1))],λs v h=>.inl (by obtain⟨rfl,rfl⟩:=C9 h;rfl),s11o23 (a:=(AK b1)) ⟨_,rfl,(AK b1),rfl,Mem.sub.refl _,rfl⟩⟩
theorem ls24(g:AO V b0 b1 sl)(hs:V.sub V1)(hv:∀j∈Af 24,AI b1 (Aq b0 V1) j (val j)):AT 24 b0 b1 sl V1 val:=by
 have k:(val 23)=(AK b1):=hv 23 (by simp[Af]);have eq:[(32,AK b1)]=(Af 24).map λj=>(9+j,val j):=by simp[Af,k]
 refine⟨_,λs v h=>.inr (BN (by rw[<-eq];exact h)),s11o24 (a:=AK b1) ?_⟩;unfold w11o24;exact⟨40,#[],#[pv b1],rfl,uH,(Gt (s:=CM) (hs _ _ g.x)).callv (first:=[]) (caps:=[pv b1]) ⟨_,_,_,_,rfl,_,rfl,_,rfl,Mem.sub.refl _,.mk 4 0 CM ⟨none,0,0⟩ [],rfl,rfl,lsEk (by decide)⟩⟩
theorem ls25(q:AO V b0 b1 sl)(hs:V.sub V1)(hv:∀j∈Af 25,AI b1 (Aq b0 V1) j (val j)):AT 25 b0 b1 sl V1 val:=by
 have u:(val 20)=lsP:=hv 20 (by simp[Af]);have w:lE (Bn AW) (val 22) (Aq b0 V1):=hv 22 (by simp[Af]);have y:lE (Bn CM) (val 24) (Aq b0 V1):=hv 24 (by simp[Af]);obtain⟨e,H,J,G⟩:=w;obtain⟨f,N,f2,f3⟩:=y;have eq:[(29,lsP),(31,e.v),(33,f.v)]=(Af 25).map λj=>(9+j,val j):=by simp[Af,u,H,N]
 refine⟨_,λs v h=>.inr (BN (by rw[<-eq];exact h)),s11o25 (a:=lsP) (b:=e.op) (c:=e.n) (d:=e.s) (g:=e.l) (i:=f.op) (j:=f.n) (k:=f.s) (l:=f.l) ?_⟩;unfold w11o25;refine⟨42,#[],#[],rfl,uJ,Mi ?_⟩;intro b t;exact⟨_,_,_,_,_,rfl,_,rfl,_,rfl,Mem.sub_new t _,2,Dh,⟨some ⟨b,0,none⟩,2,2⟩,[e,f],⟨none,0,0⟩,[],rfl,by unfold Dr;rw[EN,zG,ve,J,f2];rfl,.mk (Ad.cells (xs:=[e,f]) (row:=E.row) (DK q hs t _) rfl (λ_=>rfl) rfl (by simp)) (λx r=>by
  rcases yC.1 r with rfl|r;·exact G.sub (CW t _)
  ·rw[zO.1 r];exact f3.sub (CW t _)) Ey (λ_ h=>by simp at h) Ey (λ_ h=>by simp at h) (by decide)⟩
theorem ls26(k:AO V b0 b1 sl)(hs:V.sub V1)(hv:∀j∈Af 26,AI b1 (Aq b0 V1) j (val j)):AT 26 b0 b1 sl V1 val:=by
 have _:=k.z;have _:=hs;have _:=hv;exact⟨[(3,lsS)],λs v h=>.inl (by obtain⟨rfl,rfl⟩:=C9 h;rfl),s11o26 (a:=lsS) ⟨_,rfl,lsS,rfl,Mem.sub.refl _,rfl⟩⟩
theorem ls27(k:AO V b0 b1 sl)(hs:V.sub V1)(hv:∀j∈Af 27,AI b1 (Aq b0 V1) j (val j)):AT 27 b0 b1 sl V1 val:=by
 have _:=k.z;have _:=hs;have _:=hv;exact⟨[(2,(AK b1))],λs v h=>.inl (by obtain⟨rfl,rfl⟩:=C9 h;rfl),s11o27 (a:=(AK b1)) ⟨_,rfl,(AK b1),rfl,Mem.sub.refl _,rfl⟩⟩
theorem ls28(g:AO V b0 b1 sl)(hs:V.sub V1)(hv:∀j∈Af 28,AI b1 (Aq b0 V1) j (val j)):AT 28 b0 b1 sl V1 val:=by
 have k:(val 27)=(AK b1):=hv 27 (by simp[Af]);have eq:[(36,AK b1)]=(Af 28).map λj=>(9+j,val j):=by simp[Af,k]
 refine⟨_,λs v h=>.inr (BN (by rw[<-eq];exact h)),s11o28 (a:=AK b1) ?_⟩;unfold w11o28;exact⟨40,#[],#[pv b1],rfl,uH,(Gt (s:=AW) (hs _ _ g.x)).callv (first:=[]) (caps:=[pv b1]) ⟨_,_,_,_,rfl,_,rfl,_,rfl,Mem.sub.refl _,.mk 4 0 AW ⟨none,0,0⟩ [],rfl,rfl,lsEk (by decide)⟩⟩
theorem ls29(u:AO V b0 b1 sl)(hs:V.sub V1)(hv:∀j∈Af 29,AI b1 (Aq b0 V1) j (val j)):AT 29 b0 b1 sl V1 val:=by
 have k:(val 26)=lsS:=hv 26 (by simp[Af]);have f:lE (Bn AW) (val 28) (Aq b0 V1):=hv 28 (by simp[Af]);obtain⟨e,w,y,i⟩:=f;have eq:[(35,lsS),(37,e.v)]=(Af 29).map λj=>(9+j,val j):=by simp[Af,k,w]
 refine⟨_,λs v h=>.inr (BN (by rw[<-eq];exact h)),s11o29 (a:=lsS) (b:=e.op) (c:=e.n) (d:=e.s) (g:=e.l) ?_⟩;unfold w11o29;refine⟨41,#[],#[],rfl,uG,KA ?_⟩;intro b t;exact⟨_,_,_,_,_,rfl,_,rfl,_,rfl,Mem.sub_new t _,1,CM,⟨some ⟨b,0,none⟩,1,1⟩,[e],⟨none,0,0⟩,[],rfl,by unfold Dr;rw[EN,ve,y];rfl,.mk (Ad.cells (xs:=[e]) (row:=E.row) (DK u hs t _) rfl (λ_=>rfl) rfl (by simp)) (λx r=>by rw[zO.1 r];exact i.sub (CW t _)) Ey (λ_ h=>by simp at h) Ey (λ_ h=>by simp at h) (by decide)⟩
theorem ls30(hB:AO V b0 b1 sl)(hs:V.sub V1)(hv:∀j∈Af 30,AI b1 (Aq b0 V1) j (val j)):AT 30 b0 b1 sl V1 val:=by
 have h13:lS (E2 AW lsNew) (val 13) (Aq b0 V1):=hv 13 (by simp[Af]);have h19:lS (Hb E1 (Bn AW) (Bn Ej)) (val 19) (Aq b0 V1):=hv 19 (by simp[Af]);have h25:lS (Hb Dh (Bn AW) (Bn CM)) (val 25) (Aq b0 V1):=hv 25 (by simp[Af]);have h29:lS (E2 CM (Bn AW)) (val 29) (Aq b0 V1):=hv 29 (by simp[Af]);obtain⟨Z,Y,W,f,k0,t,p0,q0,r0⟩:=h13;obtain⟨Q,P,O,w,I,n,p1,q1,r1⟩:=h19;obtain⟨M,L,R,e,X,H,p2,q2,r2⟩:=h25;obtain⟨E,K,T,J,U,G,p3,q3,r3⟩:=h29;have eq:[(22,(S.mk Z Y W f k0 t ⟨none,0,0⟩ []).v),(28,(S.mk Q P O w I n ⟨none,0,0⟩ []).v),(34,(S.mk M L R e X H ⟨none,0,0⟩ []).v),(38,(S.mk E K T J U G ⟨none,0,0⟩ []).v)]=(Af 30).map λj=>(9+j,val j):=by simp[Af,p0,p1,p2,p3]
 refine⟨_,λs v h=>.inr (BN (by rw[<-eq];exact h)),s11o30 (a:=Z) (b:=Y) (c:=W) (d:=k0) (g:=⟨none,0,0⟩) (i:=Q) (j:=P) (k:=O) (l:=I) (o:=⟨none,0,0⟩) (p:=M) (q:=L) (r:=R) (s:=X) (u:=⟨none,0,0⟩) (y:=E) (z:=K) (A:=T) (B:=U) (C:=⟨none,0,0⟩) ?_⟩;unfold w11o30;intro b N;exact⟨_,rfl,_,rfl,Mem.sub_new N _,⟨some ⟨b,0,none⟩,4,4⟩,[S.mk Z Y W f k0 t ⟨none,0,0⟩ [],S.mk Q P O w I n ⟨none,0,0⟩ [],S.mk M L R e X H ⟨none,0,0⟩ [],S.mk E K T J U G ⟨none,0,0⟩ []],rfl,by simp only[zG,xu,q0,q1,q2,q3];rfl,Ad.cells (xs:=[S.mk Z Y W f k0 t ⟨none,0,0⟩ [],S.mk Q P O w I n ⟨none,0,0⟩ [],S.mk M L R e X H ⟨none,0,0⟩ [],S.mk E K T J U G ⟨none,0,0⟩ []]) (row:=S.row) (DK hB hs N _) rfl (λx=>by cases x;rfl) rfl (by simp),λx hx=>by
  simp only[yC,xC,or_false]at hx;rcases hx with rfl|rfl|rfl|rfl;·exact r0.sub (CW N _)
  ·exact r1.sub (CW N _)
  ·exact r2.sub (CW N _)
  ·exact r3.sub (CW N _)⟩
theorem ls31(H:AO V b0 b1 sl)(hs:V.sub V1)(hv:∀j∈Af 31,AI b1 (Aq b0 V1) j (val j)):AT 31 b0 b1 sl V1 val:=by
 have f:lF [⟨Ej,Ai⟩] (val 8) (Aq b0 V1):=hv 8 (by simp[Af]);have t:lF [⟨AW,Bu⟩] (val 9) (Aq b0 V1):=hv 9 (by simp[Af]);have g:lB lsPr1.body (val 30) (Aq b0 V1):=hv 30 (by simp[Af]);obtain⟨l,u,w⟩:=f;obtain⟨m,y,i⟩:=t;obtain⟨k,ss,n,r,q,e⟩:=g;have eq:[(17,l.v),(18,m.v),(39,k.v)]=(Af 31).map λj=>(9+j,val j):=by simp[Af,u,y,n]
 refine⟨_,λs v h=>.inr (BN (by rw[<-eq];exact h)),s11o31 (a:=l) (b:=m) (c:=k) ⟨_,rfl,_,rfl,Mem.sub.refl _,⟨lsPush,l,[⟨Ej,Ai⟩],sE,m,[⟨AW,Bu⟩],k,ss⟩,rfl,by unfold pEr;rw[JY,r];rfl,⟨w,i,q,e⟩⟩⟩
theorem ls32(k:AO V b0 b1 sl)(hs:V.sub V1)(hv:∀j∈Af 32,AI b1 (Aq b0 V1) j (val j)):AT 32 b0 b1 sl V1 val:=by
 have _:=k.z;have _:=hs;have _:=hv;exact⟨[],λ_ _ h=>lsIn0 h,s11o32 ⟨_,rfl,.agg #[uS Ek,uS Bu],rfl,Mem.sub.refl _,rfl⟩⟩
theorem ls33(f:AO V b0 b1 sl)(hs:V.sub V1)(hv:∀j∈Af 33,AI b1 (Aq b0 V1) j (val j)):AT 33 b0 b1 sl V1 val:=by
 have k:(val 32)=.agg #[uS Ek,uS Bu]:=hv 32 (by simp[Af]);have eq:[(41,.agg #[uS Ek,uS Bu])]=(Af 33).map λj=>(9+j,val j):=by simp[Af,k]
 refine⟨_,λs v h=>.inr (BN (by rw[<-eq];exact h)),s11o33 (a:=Ek) (b:=Bu) ?_⟩;unfold w11o33;intro b g;exact⟨_,rfl,_,rfl,Mem.sub_new g _,⟨some ⟨b,0,none⟩,1,1⟩,rfl,Ad.cells (xs:=[⟨Ek,Bu⟩]) (row:=Fld.row) (DK f hs g _) rfl (λ_=>rfl) rfl (by simp)⟩
theorem ls34(k:AO V b0 b1 sl)(hs:V.sub V1)(hv:∀j∈Af 34,AI b1 (Aq b0 V1) j (val j)):AT 34 b0 b1 sl V1 val:=by
 have _:=k.z;have _:=hs;have _:=hv;exact⟨[(5,sl.v)],λs v h=>.inl (by obtain⟨rfl,rfl⟩:=C9 h;rfl),s11o34 (a:=sl) ⟨_,rfl,sl.v,rfl,Mem.sub.refl _,sl,rfl,k.c.sub (LF hs)⟩⟩
theorem ls35(k:AO V b0 b1 sl)(hs:V.sub V1)(hv:∀j∈Af 35,AI b1 (Aq b0 V1) j (val j)):AT 35 b0 b1 sl V1 val:=by
 have _:=k.z;have _:=hs;have _:=hv;exact⟨[(3,lsS)],λs v h=>.inl (by obtain⟨rfl,rfl⟩:=C9 h;rfl),s11o35 (a:=lsS) ⟨_,rfl,lsS,rfl,Mem.sub.refl _,rfl⟩⟩
theorem ls36(k:AO V b0 b1 sl)(hs:V.sub V1)(hv:∀j∈Af 36,AI b1 (Aq b0 V1) j (val j)):AT 36 b0 b1 sl V1 val:=by
 have _:=k.z;have _:=hs;have _:=hv;exact⟨[(2,(AK b1))],λs v h=>.inl (by obtain⟨rfl,rfl⟩:=C9 h;rfl),s11o36 (a:=(AK b1)) ⟨_,rfl,(AK b1),rfl,Mem.sub.refl _,rfl⟩⟩
theorem ls37(g:AO V b0 b1 sl)(hs:V.sub V1)(hv:∀j∈Af 37,AI b1 (Aq b0 V1) j (val j)):AT 37 b0 b1 sl V1 val:=by
 have k:(val 36)=(AK b1):=hv 36 (by simp[Af]);have eq:[(45,AK b1)]=(Af 37).map λj=>(9+j,val j):=by simp[Af,k]
 refine⟨_,λs v h=>.inr (BN (by rw[<-eq];exact h)),s11o37 (a:=AK b1) ?_⟩;unfold w11o37;exact⟨40,#[],#[pv b1],rfl,uH,(Gt (s:=CM) (hs _ _ g.x)).callv (first:=[]) (caps:=[pv b1]) ⟨_,_,_,_,rfl,_,rfl,_,rfl,Mem.sub.refl _,.mk 4 0 CM ⟨none,0,0⟩ [],rfl,rfl,lsEk (by decide)⟩⟩
theorem ls38(u:AO V b0 b1 sl)(hs:V.sub V1)(hv:∀j∈Af 38,AI b1 (Aq b0 V1) j (val j)):AT 38 b0 b1 sl V1 val:=by
 have k:(val 35)=lsS:=hv 35 (by simp[Af]);have f:lE (Bn CM) (val 37) (Aq b0 V1):=hv 37 (by simp[Af]);obtain⟨e,w,y,i⟩:=f;have eq:[(44,lsS),(46,e.v)]=(Af 38).map λj=>(9+j,val j):=by simp[Af,k,w]
 refine⟨_,λs v h=>.inr (BN (by rw[<-eq];exact h)),s11o38 (a:=lsS) (b:=e.op) (c:=e.n) (d:=e.s) (g:=e.l) ?_⟩;unfold w11o38;refine⟨41,#[],#[],rfl,uG,KA ?_⟩;intro b t;exact⟨_,_,_,_,_,rfl,_,rfl,_,rfl,Mem.sub_new t _,1,AW,⟨some ⟨b,0,none⟩,1,1⟩,[e],⟨none,0,0⟩,[],rfl,by unfold Dr;rw[EN,ve,y];rfl,.mk (Ad.cells (xs:=[e]) (row:=E.row) (DK u hs t _) rfl (λ_=>rfl) rfl (by simp)) (λx r=>by rw[zO.1 r];exact i.sub (CW t _)) Ey (λ_ h=>by simp at h) Ey (λ_ h=>by simp at h) (by decide)⟩
theorem ls39(k:AO V b0 b1 sl)(hs:V.sub V1)(hv:∀j∈Af 39,AI b1 (Aq b0 V1) j (val j)):AT 39 b0 b1 sl V1 val:=by
 have _:=k.z;have _:=hs;have _:=hv;exact⟨[(1,pv b1)],λs v h=>.inl (by obtain⟨rfl,rfl⟩:=C9 h;rfl),s11o39 (a:=some ⟨b1,0,none⟩) ⟨lsX,rfl,An (hs _ _ k.x) 0 1 (by simp),_,rfl,lsX,rfl,Mem.sub.refl _,rfl⟩⟩
theorem ls40(k:AO V b0 b1 sl)(hs:V.sub V1)(hv:∀j∈Af 40,AI b1 (Aq b0 V1) j (val j)):AT 40 b0 b1 sl V1 val:=by
 have _:=k.z;have _:=hs;have _:=hv;exact⟨[(1,pv b1)],λs v h=>.inl (by obtain⟨rfl,rfl⟩:=C9 h;rfl),s11o40 (a:=some ⟨b1,0,none⟩) ⟨lsX,rfl,An (hs _ _ k.x) 0 1 (by simp),_,rfl,lsX,rfl,Mem.sub.refl _,rfl⟩⟩
theorem ls41(k:AO V b0 b1 sl)(hs:V.sub V1)(hv:∀j∈Af 41,AI b1 (Aq b0 V1) j (val j)):AT 41 b0 b1 sl V1 val:=by
 have _:=k.z;have _:=hs;have _:=hv;exact⟨[(2,(AK b1))],λs v h=>.inl (by obtain⟨rfl,rfl⟩:=C9 h;rfl),s11o41 (a:=(AK b1)) ⟨_,rfl,(AK b1),rfl,Mem.sub.refl _,rfl⟩⟩
theorem ls42(g:AO V b0 b1 sl)(hs:V.sub V1)(hv:∀j∈Af 42,AI b1 (Aq b0 V1) j (val j)):AT 42 b0 b1 sl V1 val:=by
 have k:(val 41)=(AK b1):=hv 41 (by simp[Af]);have eq:[(50,AK b1)]=(Af 42).map λj=>(9+j,val j):=by simp[Af,k]
 refine⟨_,λs v h=>.inr (BN (by rw[<-eq];exact h)),s11o42 (a:=AK b1) ?_⟩;unfold w11o42;exact⟨40,#[],#[pv b1],rfl,uH,(Gt (s:=AW) (hs _ _ g.x)).callv (first:=[]) (caps:=[pv b1]) ⟨_,_,_,_,rfl,_,rfl,_,rfl,Mem.sub.refl _,.mk 4 0 AW ⟨none,0,0⟩ [],rfl,rfl,lsEk (by decide)⟩⟩
theorem ls43(f:AO V b0 b1 sl)(hs:V.sub V1)(hv:∀j∈Af 43,AI b1 (Aq b0 V1) j (val j)):AT 43 b0 b1 sl V1 val:=by
 have k:lE (Bn AW) (val 42) (Aq b0 V1):=hv 42 (by simp[Af]);obtain⟨e,t,u,w⟩:=k;have eq:[(51,e.v)]=(Af 43).map λj=>(9+j,val j):=by simp[Af,t]
 refine⟨_,λs v h=>.inr (BN (by rw[<-eq];exact h)),s11o43 (a:=e.op) (b:=e.n) (c:=e.s) (d:=e.l) ?_⟩;unfold w11o43;intro b g;exact⟨_,rfl,_,rfl,Mem.sub_new g _,⟨some ⟨b,0,none⟩,1,1⟩,[e],rfl,by rw[ve,u],Ad.cells (xs:=[e]) (row:=E.row) (DK f hs g _) rfl (λ_=>rfl) rfl (by simp),λx y=>by rw[zO.1 y];exact w.sub (CW g _)⟩
theorem ls44(y:AO V b0 b1 sl)(hs:V.sub V1)(hv:∀j∈Af 44,AI b1 (Aq b0 V1) j (val j)):AT 44 b0 b1 sl V1 val:=by
 have k:(val 40)=lsX:=hv 40 (by simp[Af]);have g:lL [Bn AW] (val 43) (Aq b0 V1):=hv 43 (by simp[Af]);obtain⟨l,es,f,t,u,w⟩:=g;have eq:[(49,lsX),(52,l.v)]=(Af 44).map λj=>(9+j,val j):=by simp[Af,k,f]
 refine⟨_,λs v h=>.inr (BN (by rw[<-eq];exact h)),s11o44 (a:=lsX) (b:=l) ?_⟩;unfold w11o44;exact⟨39,#[],#[],rfl,uF,(Kd (op:=5) (s:=Dh) (l:=l)).callv (first:=[]) (caps:=[]) ⟨_,_,_,_,rfl,_,rfl,_,rfl,Mem.sub.refl _,.mk 5 0 Dh l es,rfl,by unfold De;rw[EN,t];rfl,.mk u w (by decide) (by decide)⟩⟩
theorem ls45(k:AO V b0 b1 sl)(hs:V.sub V1)(hv:∀j∈Af 45,AI b1 (Aq b0 V1) j (val j)):AT 45 b0 b1 sl V1 val:=by
 have _:=k.z;have _:=hs;have _:=hv;exact⟨[],λ_ _ h=>lsIn0 h,s11o45 ⟨_,rfl,_,rfl,Mem.sub.refl _,.mk 3 0 sE ⟨none,0,0⟩ [],rfl,rfl,lsEk (by decide)⟩⟩
theorem ls46(r:AO V b0 b1 sl)(hs:V.sub V1)(hv:∀j∈Af 46,AI b1 (Aq b0 V1) j (val j)):AT 46 b0 b1 sl V1 val:=by
 have u:lE lsNx (val 44) (Aq b0 V1):=hv 44 (by simp[Af]);have w:lE lsNil (val 45) (Aq b0 V1):=hv 45 (by simp[Af]);obtain⟨e,q,H,J⟩:=u;obtain⟨f,G,f2,f3⟩:=w;have eq:[(53,e.v),(54,f.v)]=(Af 46).map λj=>(9+j,val j):=by simp[Af,q,G]
 refine⟨_,λs v h=>.inr (BN (by rw[<-eq];exact h)),s11o46 (a:=e.op) (b:=e.n) (c:=e.s) (d:=e.l) (g:=f.op) (i:=f.n) (j:=f.s) (k:=f.l) ?_⟩;unfold w11o46;intro b t;exact⟨_,rfl,_,rfl,Mem.sub_new t _,⟨some ⟨b,0,none⟩,2,2⟩,[e,f],rfl,by simp[H,f2],Ad.cells (xs:=[e,f]) (row:=E.row) (DK r hs t _) rfl (λ_=>rfl) rfl (by simp),λx y=>by
  rcases yC.1 y with rfl|y;·exact J.sub (CW t _)
  ·rw[zO.1 y];exact f3.sub (CW t _)⟩
theorem ls47(y:AO V b0 b1 sl)(hs:V.sub V1)(hv:∀j∈Af 47,AI b1 (Aq b0 V1) j (val j)):AT 47 b0 b1 sl V1 val:=by
 have k:(val 39)=lsX:=hv 39 (by simp[Af]);have g:lL [lsNx,lsNil] (val 46) (Aq b0 V1):=hv 46 (by simp[Af]);obtain⟨l,es,f,t,u,w⟩:=g;have eq:[(48,lsX),(55,l.v)]=(Af 47).map λj=>(9+j,val j):=by simp[Af,k,f]
 refine⟨_,λs v h=>.inr (BN (by rw[<-eq];exact h)),s11o47 (a:=lsX) (b:=l) ?_⟩;unfold w11o47;exact⟨39,#[],#[],rfl,uF,(Kd (op:=15) (s:=sE) (l:=l)).callv (first:=[]) (caps:=[]) ⟨_,_,_,_,rfl,_,rfl,_,rfl,Mem.sub.refl _,.mk 15 0 sE l es,rfl,by unfold De;rw[EN,t];rfl,.mk u w (by decide) (by decide)⟩⟩
theorem ls48(f:AO V b0 b1 sl)(hs:V.sub V1)(hv:∀j∈Af 48,AI b1 (Aq b0 V1) j (val j)):AT 48 b0 b1 sl V1 val:=by
 have k:lE lsNe (val 47) (Aq b0 V1):=hv 47 (by simp[Af]);obtain⟨e,t,u,w⟩:=k;have eq:[(56,e.v)]=(Af 48).map λj=>(9+j,val j):=by simp[Af,t]
 refine⟨_,λs v h=>.inr (BN (by rw[<-eq];exact h)),s11o48 (a:=e.op) (b:=e.n) (c:=e.s) (d:=e.l) ?_⟩;unfold w11o48;intro b g;exact⟨_,rfl,_,rfl,Mem.sub_new g _,⟨some ⟨b,0,none⟩,1,1⟩,[e],rfl,by rw[ve,u],Ad.cells (xs:=[e]) (row:=E.row) (DK f hs g _) rfl (λ_=>rfl) rfl (by simp),λx y=>by rw[zO.1 y];exact w.sub (CW g _)⟩
theorem ls49(k:AO V b0 b1 sl)(hs:V.sub V1)(hv:∀j∈Af 49,AI b1 (Aq b0 V1) j (val j)):AT 49 b0 b1 sl V1 val:=by
 have _:=k.z;have _:=hs;have _:=hv;exact⟨[(3,lsS)],λs v h=>.inl (by obtain⟨rfl,rfl⟩:=C9 h;rfl),s11o49 (a:=lsS) ⟨_,rfl,lsS,rfl,Mem.sub.refl _,rfl⟩⟩
theorem ls50(k:AO V b0 b1 sl)(hs:V.sub V1)(hv:∀j∈Af 50,AI b1 (Aq b0 V1) j (val j)):AT 50 b0 b1 sl V1 val:=by
 have _:=k.z;have _:=hs;have _:=hv;exact⟨[(1,pv b1)],λs v h=>.inl (by obtain⟨rfl,rfl⟩:=C9 h;rfl),s11o50 (a:=some ⟨b1,0,none⟩) ⟨lsX,rfl,An (hs _ _ k.x) 0 1 (by simp),_,rfl,lsX,rfl,Mem.sub.refl _,rfl⟩⟩
theorem ls51(k:AO V b0 b1 sl)(hs:V.sub V1)(hv:∀j∈Af 51,AI b1 (Aq b0 V1) j (val j)):AT 51 b0 b1 sl V1 val:=by
 have _:=k.z;have _:=hs;have _:=hv;exact⟨[(2,(AK b1))],λs v h=>.inl (by obtain⟨rfl,rfl⟩:=C9 h;rfl),s11o51 (a:=(AK b1)) ⟨_,rfl,(AK b1),rfl,Mem.sub.refl _,rfl⟩⟩
theorem ls52(g:AO V b0 b1 sl)(hs:V.sub V1)(hv:∀j∈Af 52,AI b1 (Aq b0 V1) j (val j)):AT 52 b0 b1 sl V1 val:=by
 have k:(val 51)=(AK b1):=hv 51 (by simp[Af]);have eq:[(60,AK b1)]=(Af 52).map λj=>(9+j,val j):=by simp[Af,k]
 refine⟨_,λs v h=>.inr (BN (by rw[<-eq];exact h)),s11o52 (a:=AK b1) ?_⟩;unfold w11o52;exact⟨40,#[],#[pv b1],rfl,uH,(Gt (s:=AW) (hs _ _ g.x)).callv (first:=[]) (caps:=[pv b1]) ⟨_,_,_,_,rfl,_,rfl,_,rfl,Mem.sub.refl _,.mk 4 0 AW ⟨none,0,0⟩ [],rfl,rfl,lsEk (by decide)⟩⟩
theorem ls53(f:AO V b0 b1 sl)(hs:V.sub V1)(hv:∀j∈Af 53,AI b1 (Aq b0 V1) j (val j)):AT 53 b0 b1 sl V1 val:=by
 have k:lE (Bn AW) (val 52) (Aq b0 V1):=hv 52 (by simp[Af]);obtain⟨e,t,u,w⟩:=k;have eq:[(61,e.v)]=(Af 53).map λj=>(9+j,val j):=by simp[Af,t]
 refine⟨_,λs v h=>.inr (BN (by rw[<-eq];exact h)),s11o53 (a:=e.op) (b:=e.n) (c:=e.s) (d:=e.l) ?_⟩;unfold w11o53;intro b g;exact⟨_,rfl,_,rfl,Mem.sub_new g _,⟨some ⟨b,0,none⟩,1,1⟩,[e],rfl,by rw[ve,u],Ad.cells (xs:=[e]) (row:=E.row) (DK f hs g _) rfl (λ_=>rfl) rfl (by simp),λx y=>by rw[zO.1 y];exact w.sub (CW g _)⟩
theorem ls54(y:AO V b0 b1 sl)(hs:V.sub V1)(hv:∀j∈Af 54,AI b1 (Aq b0 V1) j (val j)):AT 54 b0 b1 sl V1 val:=by
 have k:(val 50)=lsX:=hv 50 (by simp[Af]);have g:lL [Bn AW] (val 53) (Aq b0 V1):=hv 53 (by simp[Af]);obtain⟨l,es,f,t,u,w⟩:=g;have eq:[(59,lsX),(62,l.v)]=(Af 54).map λj=>(9+j,val j):=by simp[Af,k,f]
 refine⟨_,λs v h=>.inr (BN (by rw[<-eq];exact h)),s11o54 (a:=lsX) (b:=l) ?_⟩;unfold w11o54;exact⟨39,#[],#[],rfl,uF,(Kd (op:=5) (s:=Dh) (l:=l)).callv (first:=[]) (caps:=[]) ⟨_,_,_,_,rfl,_,rfl,_,rfl,Mem.sub.refl _,.mk 5 0 Dh l es,rfl,by unfold De;rw[EN,t];rfl,.mk u w (by decide) (by decide)⟩⟩
theorem ls55(u:AO V b0 b1 sl)(hs:V.sub V1)(hv:∀j∈Af 55,AI b1 (Aq b0 V1) j (val j)):AT 55 b0 b1 sl V1 val:=by
 have k:(val 49)=lsS:=hv 49 (by simp[Af]);have f:lE lsNx (val 54) (Aq b0 V1):=hv 54 (by simp[Af]);obtain⟨e,w,y,i⟩:=f;have eq:[(58,lsS),(63,e.v)]=(Af 55).map λj=>(9+j,val j):=by simp[Af,k,w]
 refine⟨_,λs v h=>.inr (BN (by rw[<-eq];exact h)),s11o55 (a:=lsS) (b:=e.op) (c:=e.n) (d:=e.s) (g:=e.l) ?_⟩;unfold w11o55;refine⟨41,#[],#[],rfl,uG,KA ?_⟩;intro b t;exact⟨_,_,_,_,_,rfl,_,rfl,_,rfl,Mem.sub_new t _,1,AW,⟨some ⟨b,0,none⟩,1,1⟩,[e],⟨none,0,0⟩,[],rfl,by unfold Dr;rw[EN,ve,y];rfl,.mk (Ad.cells (xs:=[e]) (row:=E.row) (DK u hs t _) rfl (λ_=>rfl) rfl (by simp)) (λx r=>by rw[zO.1 r];exact i.sub (CW t _)) Ey (λ_ h=>by simp at h) Ey (λ_ h=>by simp at h) (by decide)⟩
theorem ls56(r:AO V b0 b1 sl)(hs:V.sub V1)(hv:∀j∈Af 56,AI b1 (Aq b0 V1) j (val j)):AT 56 b0 b1 sl V1 val:=by
 have y:lS (E2 AW lsNx) (val 55) (Aq b0 V1):=hv 55 (by simp[Af]);obtain⟨t,u,w,k,k0,f,p0,q0,q⟩:=y;have eq:[(64,(S.mk t u w k k0 f ⟨none,0,0⟩ []).v)]=(Af 56).map λj=>(9+j,val j):=by simp[Af,p0]
 refine⟨_,λs v h=>.inr (BN (by rw[<-eq];exact h)),s11o56 (a:=t) (b:=u) (c:=w) (d:=k0) (g:=⟨none,0,0⟩) ?_⟩;unfold w11o56;intro b i;exact⟨_,rfl,_,rfl,Mem.sub_new i _,⟨some ⟨b,0,none⟩,1,1⟩,[S.mk t u w k k0 f ⟨none,0,0⟩ []],rfl,by simp only[zG,xu,q0],Ad.cells (xs:=[S.mk t u w k k0 f ⟨none,0,0⟩ []]) (row:=S.row) (DK r hs i _) rfl (λx=>by cases x;rfl) rfl (by simp),λx n=>by
  simp only[yC,xC,or_false]at n;subst n;·exact q.sub (CW i _)⟩
theorem ls57(e:AO V b0 b1 sl)(hs:V.sub V1)(hv:∀j∈Af 57,AI b1 (Aq b0 V1) j (val j)):AT 57 b0 b1 sl V1 val:=by
 have g:lL [lsNe] (val 48) (Aq b0 V1):=hv 48 (by simp[Af]);have f:lB [E2 AW lsNx] (val 56) (Aq b0 V1):=hv 56 (by simp[Af]);obtain⟨l,es,t,u,w,y⟩:=g;obtain⟨k,ss,i,n,r,q⟩:=f;have eq:[(57,l.v),(65,k.v)]=(Af 57).map λj=>(9+j,val j):=by simp[Af,t,i]
 refine⟨_,λs v h=>.inr (BN (by rw[<-eq];exact h)),s11o57 (a:=l) (b:=k) ⟨_,rfl,_,rfl,Mem.sub.refl _,4,sE,l,es,k,ss,rfl,by unfold Dr;rw[EN,u,JY,n];rfl,.mk w y r q Ey (λ_ h=>by simp at h) (by decide)⟩⟩
theorem ls58(k:AO V b0 b1 sl)(hs:V.sub V1)(hv:∀j∈Af 58,AI b1 (Aq b0 V1) j (val j)):AT 58 b0 b1 sl V1 val:=by
 have _:=k.z;have _:=hs;have _:=hv;exact⟨[(4,lsP)],λs v h=>.inl (by obtain⟨rfl,rfl⟩:=C9 h;rfl),s11o58 (a:=lsP) ⟨_,rfl,lsP,rfl,Mem.sub.refl _,rfl⟩⟩
theorem ls59(k:AO V b0 b1 sl)(hs:V.sub V1)(hv:∀j∈Af 59,AI b1 (Aq b0 V1) j (val j)):AT 59 b0 b1 sl V1 val:=by
 have _:=k.z;have _:=hs;have _:=hv;exact⟨[(2,(AK b1))],λs v h=>.inl (by obtain⟨rfl,rfl⟩:=C9 h;rfl),s11o59 (a:=(AK b1)) ⟨_,rfl,(AK b1),rfl,Mem.sub.refl _,rfl⟩⟩
theorem ls60(g:AO V b0 b1 sl)(hs:V.sub V1)(hv:∀j∈Af 60,AI b1 (Aq b0 V1) j (val j)):AT 60 b0 b1 sl V1 val:=by
 have k:(val 59)=(AK b1):=hv 59 (by simp[Af]);have eq:[(68,AK b1)]=(Af 60).map λj=>(9+j,val j):=by simp[Af,k]
 refine⟨_,λs v h=>.inr (BN (by rw[<-eq];exact h)),s11o60 (a:=AK b1) ?_⟩;unfold w11o60;exact⟨40,#[],#[pv b1],rfl,uH,(Gt (s:=AW) (hs _ _ g.x)).callv (first:=[]) (caps:=[pv b1]) ⟨_,_,_,_,rfl,_,rfl,_,rfl,Mem.sub.refl _,.mk 4 0 AW ⟨none,0,0⟩ [],rfl,rfl,lsEk (by decide)⟩⟩
theorem ls61(k:AO V b0 b1 sl)(hs:V.sub V1)(hv:∀j∈Af 61,AI b1 (Aq b0 V1) j (val j)):AT 61 b0 b1 sl V1 val:=by
 have _:=k.z;have _:=hs;have _:=hv;exact⟨[(2,(AK b1))],λs v h=>.inl (by obtain⟨rfl,rfl⟩:=C9 h;rfl),s11o61 (a:=(AK b1)) ⟨_,rfl,(AK b1),rfl,Mem.sub.refl _,rfl⟩⟩
theorem ls62(g:AO V b0 b1 sl)(hs:V.sub V1)(hv:∀j∈Af 62,AI b1 (Aq b0 V1) j (val j)):AT 62 b0 b1 sl V1 val:=by
 have k:(val 61)=(AK b1):=hv 61 (by simp[Af]);have eq:[(70,AK b1)]=(Af 62).map λj=>(9+j,val j):=by simp[Af,k]
 refine⟨_,λs v h=>.inr (BN (by rw[<-eq];exact h)),s11o62 (a:=AK b1) ?_⟩;unfold w11o62;exact⟨40,#[],#[pv b1],rfl,uH,(Gt (s:=Ek) (hs _ _ g.x)).callv (first:=[]) (caps:=[pv b1]) ⟨_,_,_,_,rfl,_,rfl,_,rfl,Mem.sub.refl _,.mk 4 0 Ek ⟨none,0,0⟩ [],rfl,rfl,lsEk (by decide)⟩⟩
theorem ls63(q:AO V b0 b1 sl)(hs:V.sub V1)(hv:∀j∈Af 63,AI b1 (Aq b0 V1) j (val j)):AT 63 b0 b1 sl V1 val:=by
 have u:(val 58)=lsP:=hv 58 (by simp[Af]);have w:lE (Bn AW) (val 60) (Aq b0 V1):=hv 60 (by simp[Af]);have y:lE (Bn Ek) (val 62) (Aq b0 V1):=hv 62 (by simp[Af]);obtain⟨e,H,J,G⟩:=w;obtain⟨f,N,f2,f3⟩:=y;have eq:[(67,lsP),(69,e.v),(71,f.v)]=(Af 63).map λj=>(9+j,val j):=by simp[Af,u,H,N]
 refine⟨_,λs v h=>.inr (BN (by rw[<-eq];exact h)),s11o63 (a:=lsP) (b:=e.op) (c:=e.n) (d:=e.s) (g:=e.l) (i:=f.op) (j:=f.n) (k:=f.s) (l:=f.l) ?_⟩;unfold w11o63;refine⟨42,#[],#[],rfl,uJ,Mi ?_⟩;intro b t;exact⟨_,_,_,_,_,rfl,_,rfl,_,rfl,Mem.sub_new t _,2,Dh,⟨some ⟨b,0,none⟩,2,2⟩,[e,f],⟨none,0,0⟩,[],rfl,by unfold Dr;rw[EN,zG,ve,J,f2];rfl,.mk (Ad.cells (xs:=[e,f]) (row:=E.row) (DK q hs t _) rfl (λ_=>rfl) rfl (by simp)) (λx r=>by
  rcases yC.1 r with rfl|r;·exact G.sub (CW t _)
  ·rw[zO.1 r];exact f3.sub (CW t _)) Ey (λ_ h=>by simp at h) Ey (λ_ h=>by simp at h) (by decide)⟩
theorem ls64(E:AO V b0 b1 sl)(hs:V.sub V1)(hv:∀j∈Af 64,AI b1 (Aq b0 V1) j (val j)):AT 64 b0 b1 sl V1 val:=by
 have L:lS (E2 AW (Bn CM)) (val 38) (Aq b0 V1):=hv 38 (by simp[Af]);have R:lS lsWh (val 57) (Aq b0 V1):=hv 57 (by simp[Af]);have X:lS (Hb Dh (Bn AW) (Bn Ek)) (val 63) (Aq b0 V1):=hv 63 (by simp[Af]);obtain⟨J,G,N,f,k0,t,p0,q0,K⟩:=L;obtain⟨Z,Y,W,w,Q,y,p1,T,U⟩:=R;obtain⟨P,O,I,n,M,e,p2,q2,r2⟩:=X;have eq:[(47,(S.mk J G N f k0 t ⟨none,0,0⟩ []).v),(66,(S.mk Z Y W w Q y ⟨none,0,0⟩ []).v),(72,(S.mk P O I n M e ⟨none,0,0⟩ []).v)]=(Af 64).map λj=>(9+j,val j):=by simp[Af,p0,p1,p2]
 refine⟨_,λs v h=>.inr (BN (by rw[<-eq];exact h)),s11o64 (a:=J) (b:=G) (c:=N) (d:=k0) (g:=⟨none,0,0⟩) (i:=Z) (j:=Y) (k:=W) (l:=Q) (o:=⟨none,0,0⟩) (p:=P) (q:=O) (r:=I) (s:=M) (u:=⟨none,0,0⟩) ?_⟩;unfold w11o64;intro b H;exact⟨_,rfl,_,rfl,Mem.sub_new H _,⟨some ⟨b,0,none⟩,3,3⟩,[S.mk J G N f k0 t ⟨none,0,0⟩ [],S.mk Z Y W w Q y ⟨none,0,0⟩ [],S.mk P O I n M e ⟨none,0,0⟩ []],rfl,by simp only[zG,xu,q0,T,q2];rfl,Ad.cells (xs:=[S.mk J G N f k0 t ⟨none,0,0⟩ [],S.mk Z Y W w Q y ⟨none,0,0⟩ [],S.mk P O I n M e ⟨none,0,0⟩ []]) (row:=S.row) (DK E hs H _) rfl (λx=>by cases x;rfl) rfl (by simp),λx C=>by
  simp only[yC,xC,or_false]at C;rcases C with rfl|rfl|rfl;·exact K.sub (CW H _)
  ·exact U.sub (CW H _)
  ·exact r2.sub (CW H _)⟩
theorem ls65(H:AO V b0 b1 sl)(hs:V.sub V1)(hv:∀j∈Af 65,AI b1 (Aq b0 V1) j (val j)):AT 65 b0 b1 sl V1 val:=by
 have g:lF [⟨Ek,Bu⟩] (val 33) (Aq b0 V1):=hv 33 (by simp[Af]);have f:lF [⟨AW,Bu⟩] (val 34) (Aq b0 V1):=hv 34 (by simp[Af]);have t:lB lsPr2.body (val 64) (Aq b0 V1):=hv 64 (by simp[Af]);obtain⟨l,u,w⟩:=g;obtain⟨m,y,i⟩:=f;obtain⟨k,ss,n,r,q,e⟩:=t;have eq:[(42,l.v),(43,m.v),(73,k.v)]=(Af 65).map λj=>(9+j,val j):=by simp[Af,u,y,n]
 refine⟨_,λs v h=>.inr (BN (by rw[<-eq];exact h)),s11o65 (a:=l) (b:=m) (c:=k) ⟨_,rfl,_,rfl,Mem.sub.refl _,⟨lsApp,l,[⟨Ek,Bu⟩],sE,m,[⟨AW,Bu⟩],k,ss⟩,rfl,by unfold pEr;rw[JY,r];rfl,⟨w,i,q,e⟩⟩⟩
theorem ls66(w:AO V b0 b1 sl)(hs:V.sub V1)(hv:∀j∈Af 66,AI b1 (Aq b0 V1) j (val j)):AT 66 b0 b1 sl V1 val:=by
 have t:lP lsPr1 (val 31) (Aq b0 V1):=hv 31 (by simp[Af]);have u:lP lsPr2 (val 65) (Aq b0 V1):=hv 65 (by simp[Af]);obtain⟨p,y,n,r⟩:=t;obtain⟨q,e,f2,f3⟩:=u;have eq:[(40,p.v),(74,q.v)]=(Af 66).map λj=>(9+j,val j):=by simp[Af,y,e]
 refine⟨_,λs v h=>.inr (BN (by rw[<-eq];exact h)),s11o66 (a:=p.name) (b:=p.ps) (c:=p.result) (d:=p.ls) (g:=p.bs) (i:=q.name) (j:=q.ps) (k:=q.result) (l:=q.ls) (o:=q.bs) ?_⟩;unfold w11o66;intro b f;exact⟨_,rfl,_,rfl,Mem.sub_new f _,⟨some ⟨b,0,none⟩,2,2⟩,p,q,rfl,n,f2,Ad.cells (xs:=[p,q]) (row:=Pr.row) (DK w hs f _) rfl (λ_=>rfl) rfl (by simp),Kc (CW f _) r,Kc (CW f _) f3⟩
theorem ls67(N:AO V b0 b1 sl)(hs:V.sub V1)(hv:∀j∈Af 67,AI b1 (Aq b0 V1) j (val j)):AT 67 b0 b1 sl V1 val:=by
 have h4:Jm (val 4) (Aq b0 V1):=hv 4 (by simp[Af]);have f:lF [⟨CM,Bu⟩] (val 6) (Aq b0 V1):=hv 6 (by simp[Af]);have g:Jn (val 66) (Aq b0 V1):=hv 66 (by simp[Af]);obtain⟨ts,x,u,w,y,i⟩:=h4;obtain⟨gs,n,r⟩:=f;obtain⟨ps,p,q,p1,e,H,p3,J,G⟩:=g;have eq:[(13,ts.v),(15,gs.v),(75,ps.v)]=(Af 67).map λj=>(9+j,val j):=by simp[Af,u,n,p1]
 refine⟨_,λs v h=>.inr (BN (by rw[<-eq];exact h)),s11o67 (a:=ts) (b:=gs) (c:=ps) ⟨_,rfl,_,rfl,Mem.sub.refl _,⟨lsLists,ts,[x],gs,[⟨CM,Bu⟩],ps,[p,q],⟨none,0,0⟩,[],⟨none,0,0⟩,[],⟨none,0,0⟩,[],⟨none,0,0⟩,[]⟩,rfl,⟨?_,rfl,rfl,rfl,rfl⟩,?_⟩⟩
 ·unfold AA;rw[ve,zG,ve,w,e,H];rfl
 ·exact
  {types:=y
   typesOk:=λt k=>by rw[zO.1 k];exact i
   globals:=r
   procs:=p3
   procsOk:=λt k=>by
    rcases yC.1 k with rfl|k;·exact J
    ·rw[zO.1 k];exact G
   measures:=Ad.nil
   measuresOk:=λ_ h=>by simp at h
   invs:=Ad.nil
   invsOk:=λ_ h=>by simp at h
   pots:=Ad.nil
   potsOk:=λ_ h=>by simp at h
   bounds:=Ad.nil
   boundsOk:=λ_ h=>by simp at h}
end
section
variable{V V1:Mem}{b0 b1:Nat}{sl:Sl}{val:Nat->Value}
noncomputable def lsR6:Code:=(flat (AN uK)).getD 6 .skip
theorem lists_flat:flat (AN uK)=c11a++[lsR6,.ret]:=by kernel_rfl
theorem lsR6_eq:lsR6=.region 6 AH true:=by kernel_rfl
theorem lsR6_ok:anyOk AH 68 9 Af=true:=by kernel_rfl
theorem lsR6_size:(AH).size=69:=by kernel_rfl
theorem RJ{tmps:Array Value}{b:Nat}{d:Ds}{w:World}(k:tmps.getD 0 undef=pv b)(h:w.heap[b]?=some (.cells d.row.toArray 35 (0,0))):(results uK tmps).run xE w=.ok d.v w:=by
 have g:uK.results=#[.cell 0 35]:=by kernel_rfl
 unfold results;rw[g];have e:asAddr (tmps.getD 0 undef)=pure ⟨b,0,none⟩:=by rw[k];rfl
 have f:=Jv (P:=xE) (t:=35) (cs:=.cons (.var .s 0) (.cons (.var .sl 1) (.cons (.var .sl 2) (.cons (.var .sl 3) (.cons (.var .sl 4) (.cons (.var .sl 5) (.cons (.var .sl 6) (.cons (.var .sl 7) .nil)))))))) (x:=.agg (.cons (.var .s 0) (.cons (.var .sl 1) (.cons (.var .sl 2) (.cons (.var .sl 3) (.cons (.var .sl 4) (.cons (.var .sl 5) (.cons (.var .sl 6) (.cons (.var .sl 7) .nil))))))))) (ρ:=d.row) (β:=id) (o:=0) (b:=b) (w:=w) h (by kernel_rfl);simp only[List.mapM_toArray,List.mapM_cons,List.mapM_nil,Sem.run_bind,Sem.run_map,Sem.run_pure,Result.andThen_ok,e,show(loadVar 35 ⟨b,0,none⟩).run xE w=.ok d.v w from f];rfl
theorem lsStep(k:AO V b0 b1 sl)(hs:V.sub V1):∀i,i<68->(∀j∈Af i,AI b1 (Aq b0 V1) j (val j))->AT i b0 b1 sl V1 val
 |0,_,hv=>RC k hs hv
 |1,_,hv=>Nf k hs hv
 |2,_,hv=>JR k hs hv
 |3,_,hv=>Ib k hs hv
 |4,_,hv=>RD k hs hv
 |5,_,hv=>G8 k hs hv
 |6,_,hv=>RF k hs hv
 |7,_,hv=>G7 k hs hv
 |8,_,hv=>RG k hs hv
 |9,_,hv=>RH k hs hv
 |10,_,hv=>ls10 k hs hv
 |11,_,hv=>ls11 k hs hv
 |12,_,hv=>ls12 k hs hv
 |13,_,hv=>ls13 k hs hv
 |14,_,hv=>ls14 k hs hv
 |15,_,hv=>ls15 k hs hv
 |16,_,hv=>ls16 k hs hv
 |17,_,hv=>ls17 k hs hv
 |18,_,hv=>ls18 k hs hv
 |19,_,hv=>ls19 k hs hv
 |20,_,hv=>ls20 k hs hv
 |21,_,hv=>ls21 k hs hv
 |22,_,hv=>ls22 k hs hv
 |23,_,hv=>ls23 k hs hv
 |24,_,hv=>ls24 k hs hv
 |25,_,hv=>ls25 k hs hv
 |26,_,hv=>ls26 k hs hv
 |27,_,hv=>ls27 k hs hv
 |28,_,hv=>ls28 k hs hv
 |29,_,hv=>ls29 k hs hv
 |30,_,hv=>ls30 k hs hv
 |31,_,hv=>ls31 k hs hv
 |32,_,hv=>ls32 k hs hv
 |33,_,hv=>ls33 k hs hv
 |34,_,hv=>ls34 k hs hv
 |35,_,hv=>ls35 k hs hv
 |36,_,hv=>ls36 k hs hv
 |37,_,hv=>ls37 k hs hv
 |38,_,hv=>ls38 k hs hv
 |39,_,hv=>ls39 k hs hv
 |40,_,hv=>ls40 k hs hv
 |41,_,hv=>ls41 k hs hv
 |42,_,hv=>ls42 k hs hv
 |43,_,hv=>ls43 k hs hv
 |44,_,hv=>ls44 k hs hv
 |45,_,hv=>ls45 k hs hv
 |46,_,hv=>ls46 k hs hv
 |47,_,hv=>ls47 k hs hv
 |48,_,hv=>ls48 k hs hv
 |49,_,hv=>ls49 k hs hv
 |50,_,hv=>ls50 k hs hv
 |51,_,hv=>ls51 k hs hv
 |52,_,hv=>ls52 k hs hv
 |53,_,hv=>ls53 k hs hv
 |54,_,hv=>ls54 k hs hv
 |55,_,hv=>ls55 k hs hv
 |56,_,hv=>ls56 k hs hv
 |57,_,hv=>ls57 k hs hv
 |58,_,hv=>ls58 k hs hv
 |59,_,hv=>ls59 k hs hv
 |60,_,hv=>ls60 k hs hv
 |61,_,hv=>ls61 k hs hv
 |62,_,hv=>ls62 k hs hv
 |63,_,hv=>ls63 k hs hv
 |64,_,hv=>ls64 k hs hv
 |65,_,hv=>ls65 k hs hv
 |66,_,hv=>ls66 k hs hv
 |67,_,hv=>ls67 k hs hv
 |_+68,h,_=>by omega
theorem c11{V:Mem}:Tri xE 11 #[] V λe V'=>V.sub V'/\∃d:Ds,e=.returned d.v/\Fq Du d/\Ds.Ok V' d:=by
 unfold Go.Sx.Tri;intro w E;refine(callsIn_wide (n:=0)).1 (callsIn_of_wp (F:=AM none) Tryz.func11 (c:=AN uK) (by kernel_rfl) trivial (Hv ?_) rfl);rw[lists_flat];have K:Bb xE 77 c11a [] [0,1,2,3,4,5] V λvs V1=>∃b0 b1 sl,vs=[pv b0,pv b1,AK b1,lsS,lsP,sl.v]/\AO V1 b0 b1 sl/\V.sub V1/\V b0=none/\∃c,c.size=8/\V1 b0=some (.cells c 35 (0,0)):=by
  refine s11a ?_;unfold w11a;intro b0 f b1 q b2 H;refine⟨_,rfl,b0,b1,⟨some ⟨b2,0,none⟩,1,1⟩,rfl,?_⟩;have S:=Mem.sub_new f (.cells #[uS (Ac []),.slice none 0 0,.slice none 0 0,.slice none 0 0,.slice none 0 0,.slice none 0 0,.slice none 0 0,.slice none 0 0] 35 (0,0));have L:=Mem.sub_new q (.cells #[lsX] 105 (0,0));have J:=Mem.sub_new H (.cells #[uS AW,uS Bu] 112 (0,0));have R:=(L.trans J) _ _ (Mem.set_same V b0 (.cells #[uS (Ac []),.slice none 0 0,.slice none 0 0,.slice none 0 0,.slice none 0 0,.slice none 0 0,.slice none 0 0,.slice none 0 0] 35 (0,0)));have T:b2≠b0:=λe=>by
   simp_all[Mem.set_same,uS,Ac]
  refine⟨⟨⟨_,R⟩,J _ _ Az,?_⟩,S.trans (L.trans J),f,_,rfl,R⟩;refine Ad.cells (xs:=[(⟨AW,Bu⟩:Fld)]) (row:=Fld.row) (fr:=(0,0)) (t:=112) ?_ rfl (λ_=>rfl) rfl (by simp);rw[lsO_ne T];exact Mem.set_same _ _ _
 refine K.step E ⟨by simp,λs v h=>by cases h⟩ ?_;rintro a1 X vs V1 G Z ⟨b0,b1,sl,rfl,U,Y,f,c,C,W⟩ y;show Code.wpIn (AM none) 0 xE lsR6 _ a1 X;rw[lsR6_eq];refine wpIn_region_any (by kernel_rfl) ?_;rw[lsR6_size];refine anyR_sound (M:=68) (k0:=9) (N:=77) (deps:=Af) (Pr:=λi v A=>AI b1 (Aq b0 A) i v) (Φ:=λV'=>V.sub V'/\∃d:Ds,Fq Du d/\Ds.Ok V' d/\V' b0=some (.cells d.row.toArray 35 (0,0))) (V:=V1) (base:=lsBase b0 b1 sl) (a0:=a1) (w0:=X) lsR6_ok (λi v A B h=>lsQ_mono (LF h) i v) (λs v h=>?_) (by decide)
  (λi hi A u val hv=>lsStep U u i hi hv) (λA u val hv=>?_) (λa' w' V' Q P O r=>?_) 69 _ _ _ (by simp) ?_ (.inl ⟨V1,Mem.sub.refl _,⟨Nat.le_refl _,y.le,λ_ _ _=>rfl,λ_ h=>.inl h,rfl,rfl⟩,rfl,Z,by simp,λi hi h=>?_,λi hi h=>?_⟩)
 ·grind[lsBase]
 ·obtain⟨d,d1,d2,d3⟩:lD (val 67) (Aq b0 A):=hv 67 (by simp[Af]);refine⟨[(0,pv b0),(76,d.v)],λs v h=>?_,s11o68 (a:=some ⟨b0,0,none⟩) (b:=d.name) (c:=d.ts) (d:=d.gs) (g:=d.ps) (i:=d.ms) (j:=d.is) (k:=d.qs) (l:=d.bs) ?_⟩
  ·rw[zd]at h;split at h;·rename_i e;simp only[beq_iff_eq]at e;subst e;cases h;exact .inl rfl
   ·obtain⟨rfl,rfl⟩:=C9 h;exact .inr ⟨67,by simp[Af],rfl,d1.symm⟩
  ·unfold w11o68;have I:=u _ _ W;refine Ao.at_ I (by simp[C]) ⟨_,rfl,(Y.trans u).set f _,d,d2,d3.sub λx o hx=>?_,?_⟩
   ·by_cases e:x=b0;·grind[lsO_no]
    ·rw[Mem.set_ne e];exact lsO_le _ _ hx
   ·rw[Mem.set_same];have:c.toList.drop (0+8)=[]:=List.drop_eq_nil_of_le (by simp[C]);show some (Obj.cells (c.toList.take 0++d.row++c.toList.drop (0+8)).toArray _ _)=_;rw[this];simp
 ·obtain⟨h1,d,h2,h3,h4⟩:=O;show Code.wpIn (AM none) 0 xE .ret _ a' w';refine wpIn_ret ?_;exact⟨Q.trans G,d.v,RJ (P.get rfl) (r.le _ _ h4),V',⟨h1,d,rfl,h2,h3⟩,y.trans r⟩
 ·have h2:=List.length_filter_le (λi=>!(wE 69 false).getD i true) (List.range (68+1));rw[List.length_range]at h2;exact h2
 ·have hf:(wE 69 false).getD i false=false:=by simp[Array.getD]
  simp_all
 ·have hf:(wE 69 false).getD i false=false:=by simp[Array.getD]
  simp_all
end
end Go.Proofs
namespace Go.Proofs
open Go Go.Sx
section
variable{d d':Ds}{m:Mm}
theorem nodeTgt_same(h:∀t,Bm d' t=Bm d t)(n:Int):nodeTgt d' m n=nodeTgt d m n:=by
 simp_all[nodeTgt]
theorem entP_same(h:∀t,Bm d' t=Bm d t):∀f,Ba d' m f=Ba d m f
 |0=>by funext st n;rw[Ba,Ba]
 |f+1=>by
  funext st n;rw[Ba,Ba,nodeTgt_same h,entP_same h f]
theorem canP_same(h:∀t,Bm d' t=Bm d t)(k:d'.globals=d.globals)(m:Mm):Cn d' m=Cn d m:=by
 have g:AS d' m=AS d m:=by
  grind[AS,lookP,entP_same]
 simp_all[Cn]
variable(SD:Fq d d')
include SD
theorem sd_glob:d'.globals=d.globals:=(congrArg Ds.globals SD.er).symm
theorem sd_can(m:Mm):Cn d' m=Cn d m:=canP_same SD.fields (sd_glob SD) m
theorem sd_uni(x y:Mm):BR d' x y=BR d x y/\Co d' x y=Co d x y:=by
 unfold BR Co C1;rw[sd_can SD];simp only[SD.fields,and_self]
theorem sd_pr(nm:KB):(Ct d' nm).params=(Ct d nm).params/\(Ct d' nm).result=(Ct d nm).result:=by
 unfold Ct;rw[SD.idx];have h:d.procs.map pEr=d'.procs.map pEr:=congrArg Ds.procs SD.er;have h2:(d.procs[(AD d nm).toNat]?).map pEr=(d'.procs[(AD d nm).toNat]?).map pEr:=by rw[<-y4,<-y4,h]
 cases k:d.procs[(AD d nm).toNat]? with
 |none=>
  grind
 |some p=>
  cases g:d'.procs[(AD d nm).toNat]? with
  |none=>simp_all
  |some q=>
   rw[k,g]at h2;have h3:pEr p=pEr q:=Option.some.inj h2;exact⟨(congrArg Pr.params h3).symm,(congrArg Pr.result h3).symm⟩
theorem sd_stE(F:Int)(ps:List PV)(x:Sp):BV d' F ps x=BV d F ps x:=by
 obtain⟨h1,h2⟩:=sd_pr SD x.nm;have h:entB (Ct d' x.nm)=entB (Ct d x.nm):=by grind[entB]
 have k:CE d' (Ct d' x.nm)=CE d (Ct d x.nm):=by grind[CE,sd_glob]
 unfold BV DS DJ;rw[h,k,SD.idx,SD.cll,(sd_uni SD _ _).1]
theorem sd_stR(F:Nat)(ps:List PV)(x:Sp):Cp d' F ps x=Cp d F ps x:=by
 unfold Cp Ha stM;rw[(sd_uni SD _ _).1,(sd_uni SD _ _).2,SD.idx,SD.play]
theorem sd_next(r:Rx Int)(ps:List PV)(par:List Int)(er:Int):Cg d' r ps par er=Cg d r ps par er:=by
 unfold Cg runV newV;rw[sd_can SD]
end
def lsV0:PV:=⟨([0],[]),[],1⟩
def lsV1:PV:=⟨([1],[(0,[5,0])]),[0],1⟩
def lsV2:PV:=⟨([1],[(0,[7,0])]),[0],1⟩
def lsV3:PV:=⟨([1],[(0,[5,2]),(0,[7,0])]),[1,2],2⟩
def lsV4:PV:=⟨([1],[(0,[5,2]),(0,[7,3]),(0,[5,4]),(0,[7,0])]),[3,3],4⟩
def lsCall(b:Int)(l:Sl)(k:Int):Sp:=⟨false,0,b,lsPush,l,[k]⟩
def lsMeld(a b:Int):Sp:=⟨true,a,b,lsApp,Aj,[]⟩
def lsDo(F:Int)(ps:List PV)(x:Sp):Int×Int×List PV:=(BV Du F ps x,DI (Cp Du F.toNat ps x),Cg Du (Cp Du F.toNat ps x) ps (Fa x) (BV Du F ps x))
theorem ls_valid:BC Du=true:=by kernel_rfl
theorem ls_chk:CS Du=none:=by kernel_rfl
theorem ls_mem:Bs Du (Ch Du Aj)=true:=by kernel_rfl
theorem ls_good:Am Du (Ch Du Aj):=⟨ls_valid,ls_chk,ls_mem⟩
theorem ls_1{b:Int}{l:Sl}:lsDo 100 [lsV0] (lsCall b l 5)=(0,0,[lsV0,lsV1]):=by kernel_rfl
theorem ls_2{b:Int}{l:Sl}:lsDo 100 [lsV0,lsV1] (lsCall b l 7)=(0,0,[lsV0,lsV1,lsV2]):=by kernel_rfl
theorem ls_3:lsDo 100 [lsV0,lsV1,lsV2] (lsMeld 1 2)=(0,0,[lsV0,lsV1,lsV2,lsV3]):=by kernel_rfl
theorem ls_4:lsDo 100 [lsV0,lsV1,lsV2,lsV3] (lsMeld 3 3)=(0,0,[lsV0,lsV1,lsV2,lsV3,lsV4]):=by kernel_rfl
end Go.Proofs
namespace Go.Proofs
open Go Go.Sx
attribute [local irreducible] Go.Sx.Tri
section
variable{V D:Mem}{p:Nat}{d:Ds}{ps ps':List PV}{F:Int}{x:Sp}
theorem CF.pub(h:CF D V p d ps){b:Nat}(g:V b=none)(o:Obj):CF (D.set b o) (V.set b o) p d ps/\D.sub (D.set b o):=by
 obtain⟨vs,k,rfl,H⟩:=h;obtain⟨h1,h2⟩:=H.pub g o;exact⟨h1.sta,h2⟩
theorem CF.call[Tab D](h:CF D V p d ps)(f:Ds.Ok D d){a b:Int}(t:F<=4000∨1048576<F){nm:KB}{l:Sl}{args:List Int}(u:Ad D l 1 (args.map Al))(g:ps.length<=900):
  Tri xE 12 #[pv p,.int .i64 a,.agg #[.string nm,l.v],.int .i64 F] V (E0 D p d ps F ⟨false,a,b,nm,l,args⟩):=by
 obtain⟨vs,k,rfl,H⟩:=h;rw[xm]at g;exact OX H f t u g
theorem CF.meld[Tab D](h:CF D V p d ps)(f:Ds.Ok D d){a b:Int}(t:F<=4000∨1048576<F){nm:KB}{l:Sl}{args:List Int}(g:ps.length<=900):
  Tri xE 13 #[pv p,.int .i64 a,.int .i64 b,.string nm,.int .i64 F] V (E0 D p d ps F ⟨true,a,b,nm,l,args⟩):=by
 obtain⟨vs,k,rfl,H⟩:=h;rw[xm]at g;exact Nv H f t g
theorem stepL(SD:Fq Du d)(g:lsDo F ps x=(0,0,ps')){e:Ending}{V':Mem}(h:E0 D p d ps F x e V'):∃(k:Mem)(a b c:Int),D.sub k/\CF k V' p d ps'/\e=.returned (.tuple #[.int .i64 ps.length,.agg #[.int .i64 0,.int .i64 a,.int .i64 b,.int .i64 c,.int .i64 0],.int .i64 0]):=by
 obtain⟨k,h1,h2,h3⟩:=h;have t:BV Du F ps x=0:=congrArg Prod.fst g;have f:DI (Cp Du F.toNat ps x)=0:=congrArg (λy=>y.2.1) g;have u:Cg Du (Cp Du F.toNat ps x) ps (Fa x) (BV Du F ps x)=ps':=congrArg (λy=>y.2.2) g;rw[sd_next SD,sd_stR SD,sd_stE SD,u]at h2;rw[sd_stE SD,sd_stR SD,t]at h3;unfold resV at h3;rw[if_pos rfl,if_pos f,f]at h3;exact⟨k,_,_,_,h1,h2,h3⟩
theorem new_same(SD:Fq Du d):Ch d Aj=Ch Du Aj:=by
 unfold Ch;rw[sd_glob SD]
theorem c9[Tab V]:PP 9 [] V (.bool true):=by
 refine Bv.mk (x9 ?_);refine Tri.mono c11 ?_;rintro _ V1 ⟨s1,d,rfl,SD,I⟩;haveI:Tab V1:=Tab.sub (V:=V) inferInstance s1;refine⟨_,_,_,_,_,_,_,_,rfl,Tri.mono (OU I) ?_⟩;have G0:Am d (Ch d Aj):=by rw[new_same SD];exact Am.same ls_good SD
 rintro _ V2 ⟨s2,⟨hG,-⟩|⟨G,p,D,v,rfl,hD,hv,C,E,B⟩⟩;·exact absurd G0 hG
 have A2:=CF.new G hv C E B;have e0:(⟨(Ch d Aj).plain,[],1⟩:PV)=lsV0:=by rw[new_same SD];rfl
 rw[e0]at A2;refine⟨_,_,rfl,λ_=>⟨λh=>absurd h nn,λ_ b hb=>?_⟩,λh=>absurd rfl h⟩;obtain⟨A3,w⟩:=A2.pub hb (.cells #[.int .i64 5,.int .i64 7] 3 (0,0));have r3:=two_at (V:=D) (b:=b) 5 7;obtain⟨M,K⟩:∃M,M=D.set b (.cells #[.int .i64 5,.int .i64 7] 3 (0,0)):=⟨_,rfl⟩;rw[<-K]at A3 w r3;have d3:=hD.trans w;have T:∀j:Nat,j<2->∃k:Int,([5,7]:List Int)[j]?=some k/\∀{b:Int}{l:Sl},lsDo 100 ([lsV0,lsV1,lsV2].take (j+1)) (lsCall b l k)=(0,0,[lsV0,lsV1,lsV2].take (j+2)):=λj hj=>by
  match j,hj with
  |0,_=>exact⟨5,rfl,ls_1⟩
  |1,_=>exact⟨7,rfl,ls_2⟩
 refine⟨λr ys U=>∃(j:Nat)(u:Mem),r=2-j/\j<=2/\ys=[.bool false,.int .i64 j]/\M.sub u/\CF u U p d ([lsV0,lsV1,lsV2].take (j+1)),2,⟨0,M,rfl,by omega,rfl,Mem.sub.refl _,A3⟩,?_⟩;rintro r U v11 v12 ⟨j,u,rfl,hj,q,g,s⟩ J hJ;simp only[List.cons.injEq,and_true]at q;obtain⟨q1,q2⟩:=q;cases inj_b _ _ q1;cases CY _ _ q2;have N:=d3.trans g;refine⟨λf=>?_,λZ=>?_⟩
 ·have f:(j:Int)<2:=f;obtain⟨k,hk,hdo⟩:=T j (by omega);obtain⟨z,-,hz,-,-,hp1,hz1,Y⟩:=(r3.sub (g.trans s.sub)).get (i:=j) (by omega);rw[hk]at hz;cases hz;refine⟨nn,by omega,f,k,Y,λb5 hb5=>?_⟩;obtain⟨A5,t⟩:=s.pub hb5 (.cells #[.int .i64 k] 3 (0,0));haveI:Tab (u.set b5 (.cells #[.int .i64 k] 3 (0,0))):=Tab.sub (V:=V1) inferInstance (N.trans t);refine Tri.mono (A5.call (F:=100) (a:=0) (b:=0) (nm:=lsPush) (l:=⟨some ⟨b5,0,none⟩,1,1⟩) (args:=[k]) (I.sub (N.trans t)) (.inl (by decide)) (Gl k) (by grind)) ?_;intro e V6 Q;obtain⟨D6,a1,a2,a3,h1,R,rfl⟩:=stepL SD hdo Q;have hl:(([lsV0,lsV1,lsV2].take (j+1)).length:Int)=(j:Int)+1:=by simp_all
  rw[hl];exact⟨_,_,_,_,_,_,_,rfl,⟨by omega,by omega⟩,λ_=>⟨λ_=>⟨λ_=>⟨⟨by omega,by omega⟩,hJ _ _ _ (show 2-(j+1)<2-j by omega) ⟨j+1,D6,rfl,by omega,rfl,g.trans (t.trans h1),R⟩⟩,λh=>absurd rfl h⟩,λh=>absurd rfl h⟩,λh=>absurd rfl h⟩
 ·have Z:¬(j:Int)<2:=Z;obtain rfl:j=2:=by omega
  have s:CF u U p d [lsV0,lsV1,lsV2]:=s;haveI:Tab u:=Tab.sub (V:=V1) inferInstance N;refine Tri.mono (s.meld (F:=100) (a:=1) (b:=2) (nm:=lsApp) (l:=Aj) (args:=[]) (I.sub N) (.inl (by decide)) (by decide)) ?_;intro e V5 Q;obtain⟨D5,a1,a2,a3,h5,A5,rfl⟩:=stepL SD ls_3 Q;have d5:=N.trans h5;haveI:Tab D5:=Tab.sub (V:=V1) inferInstance d5;refine⟨_,_,_,_,_,_,_,rfl,Tri.mono (A5.meld (F:=100) (a:=3) (b:=3) (nm:=lsApp) (l:=Aj) (args:=[]) (I.sub d5) (.inl (by decide)) (by decide)) ?_⟩;intro e V6 Q;obtain⟨D6,a4,a5,a6,h6,R,rfl⟩:=stepL SD ls_4 Q;have sV:V.sub V6:=s1.trans (d5.trans (h6.trans R.sub));obtain⟨vs,k,P,H⟩:=R;obtain⟨W,hDW,hWV,L,S⟩:=H.bs.use;have hvl:vs.length=5:=by
   have:=congrArg List.length P;simpa using this
  have h4:(vs.map Vr.pv)[4]?=some lsV4:=by rw[P];rfl
  rw[y4,Option.map_eq_some_iff]at h4;obtain⟨X,hv4,O⟩:=h4;have hm4:X.m.plain=lsV4.m:=congrArg PV.m O;have hn4:X.m.ns.n=4:=by
   rw[(H.ok X (List.mem_of_getElem? hv4)).mem.nodes.n_eq];have:=congrArg (λy:List Int×List (Int×List Int)=>y.2.length) hm4;simpa [Mm.plain,lsV4]using this
  have hw4:X.paths=4:=congrArg PV.paths O;have c4:Df 0 vs.length [4]=0:=by rw[LA,if_pos (by omega)]
  have z4:Io vs 4=4:=by
   grind[Io]
  have f4:Ip vs 4=4:=by
   grind[Ip]
  have cs:=Ri S (v:=4);have ce:=Rj S (v:=4);rw[c4,z4]at cs;rw[c4,f4]at ce;refine⟨_,_,_,_,_,_,_,rfl,cs.call ⟨_,_,rfl,ce.call ⟨_,_,rfl,λ_=>⟨λ_=>⟨λ_=>⟨λ_=>⟨λ_=>⟨λ_=>⟨λ_=>⟨rfl,sV⟩,λh=>absurd rfl h⟩,λh=>absurd rfl h⟩,λh=>absurd rfl h⟩,λh=>absurd rfl h⟩,λh=>absurd rfl h⟩,λh=>absurd rfl h⟩,λh=>absurd rfl h⟩⟩⟩
end
section
variable{V:Mem}{d:Ds}{l:Sl}{xs:List Sp}
theorem RM{x:Sp}:Tri xE 54 #[.agg #[.bool x.meld,.int .i64 x.a,.int .i64 x.b,.string x.nm,x.sl.v]] V (RY V):=by
 refine Tri.mono (PQ (R:=RY V) ?_) λ_ _ h=>h;exact⟨λ_=>⟨rfl,_,rfl⟩,λ_=>⟨rfl,_,rfl⟩⟩
theorem stepAny(h:HH V l xs):Tri xE 53 #[l.v,.func (.func 54) #[] #[]] V (RY V):=by
 refine PO (a:=l) (b:=.func (.func 54) #[] #[]) ?_;refine Tri.mono (Ql (a:=l) (b:=.func (.func 54) #[] #[]) (R:=λe V'=>V=V'/\∃r:Int,e=.returned (.int .i64 r)) ?_) ?_
 ·refine AU (mk:=.int .i64) (b0:=0) xs.length (λi V1=>V=V1) rfl ?_;rintro i b V1 J hi rfl t;refine⟨λk=>?_,λ_=>⟨rfl,_,rfl⟩⟩;obtain⟨x,u,j,-,f,w,y,g⟩:=h.rows.get k;refine⟨w,y,k,_,_,_,_,_,g,54,#[],#[],rfl,Tryz.call54,Tri.mono (RM (x:=x)) ?_⟩;rintro _ _ ⟨rfl,b,rfl⟩;exact⟨b,rfl,λ_=>⟨rfl,_,rfl⟩,λ_=>⟨h.rows.succ k,t f _ _ rfl⟩⟩
 ·rintro _ _ ⟨rfl,r,rfl⟩;exact⟨_,rfl,rfl,_,rfl⟩
theorem RN(f:Ds.Ok V d)(g:HH V l xs):Tri xE 18 #[d.v,l.v] V λe V'=>V=V'/\∃b,e=.returned (.bool b)/\(b=false->xs.length<=10):=by
 refine Pn ?_;have t:=g.rows.n_eq;refine Tri.mono (greatC f) ?_;rintro _ _ ⟨rfl,b,rfl⟩;refine⟨_,rfl,λ_=>⟨rfl,true,rfl,λh=>by cases h⟩,λ_=>⟨λ_=>⟨rfl,true,rfl,λh=>by cases h⟩,λk=>?_⟩⟩;have k:¬(10:Int)<(l.n:Int):=k;refine Tri.mono (stepAny g) ?_;rintro _ _ ⟨rfl,b,rfl⟩;grind
end
section
variable{V:Mem}{v F:Int}
theorem nilCheck{q:Option Addr}{n c:Nat}:PP 43 [.pointer none,.int .i64 F,.slice q n c] V (.int .i64 1):=by
 show PP 43 [.pointer none,.int .i64 F,(⟨q,n,c⟩:Sl).v] V _;refine N6 ?_;exact⟨λ_=>⟨rfl,rfl⟩,λh=>absurd rfl h⟩
end
end Go.Proofs
