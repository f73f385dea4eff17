/- Part 17 of a proof of a law of this seat: no statement of the seat is proved here. -/
import Derived.Test.YtginfholjbbgeaaGreatDoorPart16
import Derived.ProofKit
import Derived.Test.YtginfholjbbgeaaGreatDoorRows
import Derived.Lib.LaidIn
import Derived.Lib.LaidTab
import Derived.Handed
import Derived.Test.YtginfholjbbgeaaGreatDoorPart09
import Derived.Test.YtginfholjbbgeaaGreatDoorPart15
set_option linter.unusedVariables false
set_option linter.unusedSimpArgs false
namespace Go.Proofs
open Go Go.Sx
def qAX(w:World):Mem:=fun b=>w.heap[b]?
theorem heapM_le(w:World):(qAX w).le w:=fun _ _ h=>h
theorem qFv{α β:Type}{f:α->Option β}:∀{l:List α} {r:List β},l.mapM f=some r->r.length=l.length/\∀(i:Nat) (a:α),l[i]?=some a->∃b,r[i]?=some b/\f a=some b
 | [],r,h=>by simp at h;subst h;simp
 | x::l,r,h=>by
  simp only[List.mapM_cons,Option.bind_eq_bind,Option.bind_eq_some_iff,Option.pure_def,Option.some.injEq]at h
  obtain⟨b,hb,r',hr',rfl⟩:=h
  obtain⟨h1,h2⟩:=qFv hr'
  refine⟨by simp[h1],fun i a ha=>?_⟩
  cases i with
  | zero=>simp at ha;subst ha;exact⟨b,by simp,hb⟩
  | succ i=>simp at ha;simpa using h2 i a ha
theorem cells_row{w:World}{a:Addr}{n:Nat}{cs:List Value}(h:w.cells? 0 a n=some cs)(hn:0<n):(qAX w).row a n=some cs:=by
 unfold World.cells? at h
 rw[if_pos (Nat.zero_le _)]at h
 obtain⟨h1,h2⟩:=qFv h
 have hat:∀i,i<n->∃v,cs[i]?=some v/\w.cell? (a.add i)=some v:=fun i hi=>h2 i i (by simp[hi])
 obtain⟨v0,-,hc0⟩:=hat 0 hn
 have e0:a.add 0=a:=by unfold Addr.add;rw[if_pos rfl]
 rw[e0]at hc0
 unfold World.cell? at hc0
 split at hc0
 ·rename_i c t fr hb
  split at hc0
  ·cases hc0
  ·rename_i hsp
   have hsp':a.spot.isNone=true:=by cases hs:a.spot with
    | none=>rfl
    | some x=>rw[hs]at hsp;exact absurd rfl hsp
   have hsp2:a.spot=none:=by cases hs:a.spot with
    | none=>rfl
    | some x=>rw[hs]at hsp';cases hsp'
   have hci:∀i,i<n->∃v,cs[i]?=some v/\c[a.off+i]?=some v:=fun i hi=>by
    obtain⟨v,hv,hc⟩:=hat i hi
    refine⟨v,hv,?_⟩
    have e:a.add i=⟨a.block,a.off+i,none⟩:=by
     unfold Addr.add
     by_cases h0:i=0
     ·subst h0;rw[if_pos rfl]
      cases a with
      | mk b o s=>simp only at hsp2;subst hsp2;rfl
     ·rw[if_neg h0]
    rw[e]at hc
    simpa [World.cell?,hb]using hc
   have hlen:a.off+n<=c.size:=by
    obtain⟨v,_,hc⟩:=hci (n-1) (by omega)
    have:=(Array.getElem?_eq_some_iff.1 hc).1
    omega
   have hcs:cs.length=n:=by rw[h1];simp
   unfold Mem.row qAX
   simp only[hb]
   rw[if_pos ⟨hsp',hlen⟩]
   congr 1
   apply List.ext_getElem?
   intro i
   by_cases hi:i<n
   ·obtain⟨v,hv,hc⟩:=hci i hi
    rw[hv,List.getElem?_take,if_pos hi,List.getElem?_drop,Array.getElem?_toList,hc]
   ·rw[List.getElem?_eq_none (by simp;omega),List.getElem?_eq_none (by omega)]
 ·cases hc0
section
variable{H:Type}{enc:TypeId×Value->H}{w:World}
noncomputable abbrev TR(enc:TypeId×Value->H)(w:World)(n:Nat)(t:TypeId)(cs:List Value):=DataW.trod enc Tryz.prog w 0 (fun _=>true) true n t cs
theorem rd_str{n:Nat}{t:TypeId}{cs:List Value}{x:DataW H×List MemPlace}(ht:Tryz.prog.underlying t=some .string)(h:TR enc w n t cs=some x):∃s,cs=[.string s]:=by
 cases n with
 | zero=>cases h
 | succ n =>
  unfold TR DataW.trod at h
  rw[ht]at h
  split at h <;> first | (rename_i e;cases e;done) | skip
  all_goals first|exact⟨_,rfl⟩ | (simp_all;done)
theorem rd_int{n:Nat}{t:TypeId}{cs:List Value}{x:DataW H×List MemPlace}(ht:Tryz.prog.underlying t=some (.int .i64))(h:TR enc w n t cs=some x):∃v:Int,cs=[.int .i64 v]/\IntKind.i64.min<=v/\v<=IntKind.i64.max:=by
 cases n with
 | zero=>cases h
 | succ n =>
  unfold TR DataW.trod at h
  rw[ht]at h
  split at h <;> simp_all
  obtain⟨⟨-,hw⟩,-⟩:=h
  simp only[Lit.wf,Bool.and_eq_true,decide_eq_true_eq]at hw
  exact hw
theorem rd_slice{α:Type}{row:α->List Value}{ok:α->Prop}{sz n:Nat}{t e:TypeId}{cs:List Value}{x:DataW H×List MemPlace}(ht:Tryz.prog.underlying t=some (.slice e))(hc:Tryz.prog.cellsOf e=sz)(hsz:0<sz)(hrow:∀a,(row a).length=sz)
  (hE:∀m,m<n->∀cs x,TR enc w m e cs=some x->∃a,row a=cs/\ok a) (h:TR enc w n t cs=some x):∃(s:Sl) (xs:List α),cs=[.slice s.p s.n s.c]/\qAc (qAX w) s sz (xs.map row)/\∀a∈xs,ok a:=by
 cases n with
 | zero=>cases h
 | succ n =>
  have key:∀(a:Addr) (len cap:Nat),TR enc w (n+1) t [.slice (some a) len cap]=some x->∃(xs:List α),qAc (qAX w) ⟨some a,len,cap⟩ sz (xs.map row)/\∀a∈xs,ok a:=by
   intro a len cap h
   unfold TR DataW.trod at h
   rw[ht]at h
   simp only at h
   split at h
   case isFalse=>cases h
   rename_i hcond
   simp only[Option.bind_eq_some_iff]at h
   obtain⟨elems,hm,-⟩:=h
   obtain⟨h1,h2⟩:=qFv hm
   have hex:∀i:Fin len,∃y:α,(qAX w).row (a.add (i*sz)) sz=some (row y)/\ok y:=by
    intro i
    obtain⟨b,-,hb⟩:=h2 i i (by simp)
    simp only[Option.bind_eq_some_iff]at hb
    obtain⟨ci,hci,hti⟩:=hb
    obtain⟨y,hy,hok⟩:=hE n (Nat.lt_succ_self n) ci _ hti
    rw[hc]at hci
    exact⟨y,by rw[hy];exact cells_row hci hsz,hok⟩
   refine⟨List.ofFn fun i=>Classical.choose (hex i),⟨by simp,hcond.2.1,by have:=hcond.2.2;unfold maxLen at this;omega,?_,?_⟩,?_⟩
   ·intro r hr
    simp only[List.mem_map]at hr
    obtain⟨y,-,rfl⟩:=hr
    exact hrow y
   ·intro i r hr
    simp only[List.getElem?_map,List.getElem?_ofFn]at hr
    split at hr
    ·rename_i hi
     simp only[Option.map_some,Option.some.injEq]at hr
     subst hr
     exact⟨a,rfl,(Classical.choose_spec (hex ⟨i,hi⟩)).1⟩
    ·cases hr
   ·intro y hy
    simp only[List.mem_ofFn]at hy
    obtain⟨i,rfl⟩:=hy
    exact(Classical.choose_spec (hex i)).2
  have main:cs=[.slice none 0 0]∨∃a len cap,cs=[.slice (some a) len cap]:=by
   unfold TR DataW.trod at h
   rw[ht]at h
   clear key hE
   split at h <;> first | (rename_i e;cases e;done) | (rename_i e _;cases e;done) | (rename_i e _ _;cases e;done) | (left;rfl) | (right;exact⟨_,_,_,rfl⟩) | (cases h;done) | skip
  rcases main with rfl|⟨a,len,cap,rfl⟩
  ·exact⟨⟨none,0,0⟩,[],rfl,qAc.nil,by simp⟩
  ·obtain⟨xs,g1,g2⟩:=key a len cap h
   exact⟨⟨some a,len,cap⟩,xs,rfl,g1,g2⟩
theorem qBc{n:Nat}{t:TypeId}{fs:Array Field}{cs:List Value}{x:DataW H×List MemPlace}(ht:Tryz.prog.underlying t=some (.struct fs))(h:TR enc w n t cs=some x) :
  cs.length=Tryz.prog.cellsOf t/\∃m,m<n/\∀(i:Nat) (f:Field),fs.toList[i]?=some f->∃y,TR enc w m f.type ((cs.drop f.offset).take (Tryz.prog.cellsOf f.type))=some y:=by
 cases n with
 | zero=>cases h
 | succ n =>
  have key:cs.length=Tryz.prog.cellsOf t->(∃xs,(fs.toList.mapM fun f=>DataW.trod enc Tryz.prog w 0 (fun _=>true) true n f.type ((cs.drop f.offset).take (Tryz.prog.cellsOf f.type)))=some xs) ->
    cs.length=Tryz.prog.cellsOf t/\∃m,m<n+1/\∀(i:Nat) (f:Field),fs.toList[i]?=some f->∃y,TR enc w m f.type ((cs.drop f.offset).take (Tryz.prog.cellsOf f.type))=some y:=by
   rintro hl ⟨xs,hx⟩
   refine⟨hl,n,Nat.lt_succ_self n,fun i f hf=>?_⟩
   obtain⟨-,h2⟩:=qFv hx
   obtain⟨b,-,hb⟩:=h2 i f hf
   exact⟨b,hb⟩
  unfold TR DataW.trod at h
  rw[ht]at h
  split at h
  all_goals first | (rename_i e;cases e;done) | (rename_i e _;cases e;done) | (rename_i e _ _;cases e;done) | (exact absurd rfl ((by assumption:∀fs_1:Array Field,some (TypeDesc.struct fs)=some (TypeDesc.struct fs_1)->False) fs)) | skip
  rename_i e
  cases e
  split at h
  ·rename_i hl
   simp only[Option.map_eq_some_iff]at h
   obtain⟨xs,hx,-⟩:=h
   exact key hl ⟨xs,hx⟩
  ·simp only[reduceCtorEq]at h
end
end Go.Proofs
namespace Go.Proofs
open Go Go.Sx
section
variable{H:Type}{enc:TypeId×Value->H}{w:World}
theorem at1{cs:List Value}{v:Value}{off m:Nat}{t:TypeId}(h:∃y,TR enc w m t ((cs.drop off).take (Tryz.prog.cellsOf t))=some y)(hc:Tryz.prog.cellsOf t=1)(hv:cs[off]?=some v):∃y,TR enc w m t [v]=some y:=by
 obtain⟨y,hy⟩:=h
 refine⟨y,?_⟩
 have hlt:=(List.getElem?_eq_some_iff.1 hv).1
 have e:(cs.drop off).take 1=[v]:=by
  rw[List.drop_eq_getElem_cons hlt,(List.getElem?_eq_some_iff.1 hv).2]
  simp
 rw[hc,e]at hy
 exact hy
theorem cl9:Tryz.prog.cellsOf 9=1:=by kernel_rfl
theorem cl3:Tryz.prog.cellsOf 3=1:=by kernel_rfl
theorem cl22:Tryz.prog.cellsOf 22=1:=by kernel_rfl
theorem cl23:Tryz.prog.cellsOf 23=1:=by kernel_rfl
theorem cl24:Tryz.prog.cellsOf 24=1:=by kernel_rfl
theorem cl25:Tryz.prog.cellsOf 25=1:=by kernel_rfl
theorem cl26:Tryz.prog.cellsOf 26=1:=by kernel_rfl
theorem cl27:Tryz.prog.cellsOf 27=1:=by kernel_rfl
theorem cl28:Tryz.prog.cellsOf 28=1:=by kernel_rfl
theorem cl38:Tryz.prog.cellsOf 114=1:=by kernel_rfl
theorem cl52:Tryz.prog.cellsOf 117=1:=by kernel_rfl
theorem cl40:Tryz.prog.cellsOf 116=4:=by kernel_rfl
theorem cl67:Tryz.prog.cellsOf 113=2:=by kernel_rfl
theorem cl94:Tryz.prog.cellsOf 132=2:=by kernel_rfl
theorem cl54:Tryz.prog.cellsOf 121=5:=by kernel_rfl
theorem cl75:Tryz.prog.cellsOf 119=5:=by kernel_rfl
theorem cl97:Tryz.prog.cellsOf 153=7:=by kernel_rfl
theorem cl58:Tryz.prog.cellsOf 156=6:=by kernel_rfl
theorem cl61:Tryz.prog.cellsOf 158=5:=by kernel_rfl
theorem cl64:Tryz.prog.cellsOf 160=5:=by kernel_rfl
theorem cl30:Tryz.prog.cellsOf 30=8:=by kernel_rfl
theorem gS{m:Nat}{v:Value}(h:∃y,TR enc w m 9 [v]=some y):∃s,v=.string s:=by
 obtain⟨y,hy⟩:=h
 obtain⟨s,e⟩:=rd_str Tryz.underlying9 hy
 exact⟨s,by simpa using e⟩
theorem gI{m:Nat}{v:Value}(h:∃y,TR enc w m 3 [v]=some y):∃n:Int,v=.int .i64 n/\IntKind.i64.min<=n/\n<=IntKind.i64.max:=by
 obtain⟨y,hy⟩:=h
 obtain⟨s,e,h1⟩:=rd_int Tryz.underlying3 hy
 exact⟨s,by simpa using e,h1⟩
theorem gSl{α:Type}{row:α->List Value}{ok:α->Prop}{sz m:Nat}{t e:TypeId}{v:Value}(ht:Tryz.prog.underlying t=some (.slice e))(hc:Tryz.prog.cellsOf e=sz)(hsz:0<sz)(hrow:∀a,(row a).length=sz)
  (hE:∀m',m'<m->∀cs x,TR enc w m' e cs=some x->∃a,row a=cs/\ok a) (h:∃y,TR enc w m t [v]=some y):∃(s:Sl) (xs:List α),v=.slice s.p s.n s.c/\qAc (qAX w) s sz (xs.map row)/\∀a∈xs,ok a:=by
 obtain⟨y,hy⟩:=h
 obtain⟨s,xs,e,h1,h2⟩:=rd_slice ht hc hsz hrow hE hy
 exact⟨s,xs,by simpa using e,h1,h2⟩
theorem len2{cs:List Value}(h:cs.length=2):∃a b,cs=[a,b]:=by
 match cs,h with
 | [a,b],_=>exact⟨a,b,rfl⟩
theorem len4{cs:List Value}(h:cs.length=4):∃a b c d,cs=[a,b,c,d]:=by
 match cs,h with
 | [a,b,c,d],_=>exact⟨a,b,c,d,rfl⟩
theorem len5{cs:List Value}(h:cs.length=5):∃a b c d e,cs=[a,b,c,d,e]:=by
 match cs,h with
 | [a,b,c,d,e],_=>exact⟨a,b,c,d,e,rfl⟩
theorem len6{cs:List Value}(h:cs.length=6):∃a b c d e f,cs=[a,b,c,d,e,f]:=by
 match cs,h with
 | [a,b,c,d,e,f],_=>exact⟨a,b,c,d,e,f,rfl⟩
theorem len7{cs:List Value}(h:cs.length=7):∃a b c d e f g,cs=[a,b,c,d,e,f,g]:=by
 match cs,h with
 | [a,b,c,d,e,f,g],_=>exact⟨a,b,c,d,e,f,g,rfl⟩
theorem len8{cs:List Value}(h:cs.length=8):∃a b c d e f g i,cs=[a,b,c,d,e,f,g,i]:=by
 match cs,h with
 | [a,b,c,d,e,f,g,i],_=>exact⟨a,b,c,d,e,f,g,i,rfl⟩
theorem rdFld{n:Nat}{cs:List Value}{x:DataW H×List MemPlace}(h:TR enc w n 113 cs=some x):∃f:Fld,Fld.row f=cs/\True:=by
 obtain⟨hl,m,-,hs⟩:=qBc Tryz.underlying113 h
 obtain⟨a,b,rfl⟩:=len2 (hl.trans cl67)
 obtain⟨s1,rfl⟩:=gS (at1 (hs 0 _ rfl) cl9 rfl)
 obtain⟨s2,rfl⟩:=gS (at1 (hs 1 _ rfl) cl9 rfl)
 exact⟨⟨s1,s2⟩,rfl,trivial⟩
theorem rdE:∀(n:Nat) (cs:List Value) (x:DataW H×List MemPlace),TR enc w n 116 cs=some x->∃e:E,E.row e=cs/\E.Ok (qAX w) e:=by
 intro n
 induction n using Nat.strongRecOn with
 | _ n ih =>
 intro cs x h
 obtain⟨hl,m,hm,hs⟩:=qBc Tryz.underlying116 h
 obtain⟨a,b,c,d,rfl⟩:=len4 (hl.trans cl40)
 obtain⟨op,rfl,ho⟩:=gI (at1 (hs 0 _ rfl) cl3 rfl)
 obtain⟨nn,rfl,hn⟩:=gI (at1 (hs 1 _ rfl) cl3 rfl)
 obtain⟨s,rfl⟩:=gS (at1 (hs 2 _ rfl) cl9 rfl)
 obtain⟨l,k,rfl,hr,hk⟩:=gSl (row:=E.row) (ok:=E.Ok (qAX w)) Tryz.underlying114 cl40 (by decide) (fun _=>rfl) (fun m' hm'=>ih m' (by omega)) (at1 (hs 3 _ rfl) cl38 rfl)
 exact⟨.mk op nn s l k,rfl,.mk hr hk ho hn⟩
theorem S.row_len:∀s:S,(S.row s).length=5:=fun s=>by cases s;rfl
theorem rdS:∀(n:Nat) (cs:List Value) (x:DataW H×List MemPlace),TR enc w n 119 cs=some x->∃e:S,S.row e=cs/\S.Ok (qAX w) e:=by
 intro n
 induction n using Nat.strongRecOn with
 | _ n ih =>
 intro cs x h
 obtain⟨hl,m,hm,hs⟩:=qBc Tryz.underlying119 h
 obtain⟨a,b,c,d,e,rfl⟩:=len5 (hl.trans cl75)
 obtain⟨op,rfl,ho⟩:=gI (at1 (hs 0 _ rfl) cl3 rfl)
 obtain⟨s,rfl⟩:=gS (at1 (hs 1 _ rfl) cl9 rfl)
 obtain⟨el,es,rfl,hr1,hk1⟩:=gSl (row:=E.row) (ok:=E.Ok (qAX w)) Tryz.underlying114 cl40 (by decide) (fun _=>rfl) (fun m' _=>rdE m') (at1 (hs 2 _ rfl) cl38 rfl)
 obtain⟨ll,ls,rfl,hr2,hk2⟩:=gSl (row:=S.row) (ok:=S.Ok (qAX w)) Tryz.underlying117 cl75 (by decide) S.row_len (fun m' hm'=>ih m' (by omega)) (at1 (hs 3 _ rfl) cl52 rfl)
 obtain⟨xl,xs,rfl,hr3,hk3⟩:=gSl (row:=S.row) (ok:=S.Ok (qAX w)) Tryz.underlying117 cl75 (by decide) S.row_len (fun m' hm'=>ih m' (by omega)) (at1 (hs 4 _ rfl) cl52 rfl)
 exact⟨.mk op s el es ll ls xl xs,rfl,.mk hr1 hk1 hr2 hk2 hr3 hk3 ho⟩
theorem gF{m:Nat}{v:Value}(h:∃y,TR enc w m 23 [v]=some y):∃(s:Sl) (xs:List Fld),v=.slice s.p s.n s.c/\qAc (qAX w) s 2 (xs.map Fld.row):=by
 obtain⟨s,xs,h1,h2,-⟩:=gSl (row:=Fld.row) (ok:=fun _=>True) Tryz.underlying23 cl67 (by decide) (fun _=>rfl) (fun _ _ _ _=>rdFld) h
 exact⟨s,xs,h1,h2⟩
theorem rdTy{n:Nat}{cs:List Value}{x:DataW H×List MemPlace}(h:TR enc w n 132 cs=some x):∃f:Ty,Ty.row f=cs/\Ty.Ok (qAX w) f:=by
 obtain⟨hl,m,-,hs⟩:=qBc Tryz.underlying132 h
 obtain⟨a,b,rfl⟩:=len2 (hl.trans cl94)
 obtain⟨s1,rfl⟩:=gS (at1 (hs 0 _ rfl) cl9 rfl)
 obtain⟨l,k,rfl,hr⟩:=gF (at1 (hs 1 _ rfl) cl23 rfl)
 exact⟨⟨s1,l,k⟩,rfl,⟨hr⟩⟩
theorem rdPr{n:Nat}{cs:List Value}{x:DataW H×List MemPlace}(h:TR enc w n 121 cs=some x):∃f:Pr,Pr.row f=cs/\Pr.Ok (qAX w) f:=by
 obtain⟨hl,m,-,hs⟩:=qBc Tryz.underlying121 h
 obtain⟨a,b,c,d,e,rfl⟩:=len5 (hl.trans cl54)
 obtain⟨s1,rfl⟩:=gS (at1 (hs 0 _ rfl) cl9 rfl)
 obtain⟨l1,k1,rfl,hr1⟩:=gF (at1 (hs 1 _ rfl) cl23 rfl)
 obtain⟨s2,rfl⟩:=gS (at1 (hs 2 _ rfl) cl9 rfl)
 obtain⟨l2,k2,rfl,hr2⟩:=gF (at1 (hs 3 _ rfl) cl23 rfl)
 obtain⟨l3,k3,rfl,hr3,hk3⟩:=gSl (row:=S.row) (ok:=S.Ok (qAX w)) Tryz.underlying117 cl75 (by decide) S.row_len (fun m' _=>rdS m') (at1 (hs 4 _ rfl) cl52 rfl)
 exact⟨⟨s1,l1,k1,s2,l2,k2,l3,k3⟩,rfl,⟨hr1,hr2,hr3,hk3⟩⟩
theorem rdMs{n:Nat}{cs:List Value}{x:DataW H×List MemPlace}(h:TR enc w n 153 cs=some x):∃f:Ms,Ms.row f=cs/\Ms.Ok (qAX w) f:=by
 obtain⟨hl,m,-,hs⟩:=qBc Tryz.underlying153 h
 obtain⟨a,b,c,d,e,f,g,rfl⟩:=len7 (hl.trans cl97)
 obtain⟨s1,rfl⟩:=gS (at1 (hs 0 _ rfl) cl9 rfl)
 obtain⟨s2,rfl⟩:=gS (at1 (hs 1 _ rfl) cl9 rfl)
 obtain⟨nn,rfl,hn⟩:=gI (at1 (hs 2 _ rfl) cl3 rfl)
 obtain⟨y,hy⟩:=hs 3 _ rfl
 change TR enc w m 116 (([Value.string s1,.string s2,.int .i64 nn,d,e,f,g].drop 3).take (Tryz.prog.cellsOf 116))=some y at hy
 rw[cl40]at hy
 obtain⟨x,hx,hxo⟩:=rdE m _ _ hy
 simp only[List.drop_succ_cons,List.drop_zero,List.take_succ_cons,List.take_zero,E.row,List.cons.injEq,and_true]at hx
 obtain⟨rfl,rfl,rfl,rfl⟩:=hx
 exact⟨⟨s1,s2,nn,x⟩,rfl,⟨hxo,hn⟩⟩
theorem rdIv{n:Nat}{cs:List Value}{x:DataW H×List MemPlace}(h:TR enc w n 156 cs=some x):∃f:Iv,Iv.row f=cs/\E.Ok (qAX w) f.x:=by
 obtain⟨hl,m,-,hs⟩:=qBc Tryz.underlying156 h
 obtain⟨a,b,d,e,f,g,rfl⟩:=len6 (hl.trans cl58)
 obtain⟨s1,rfl⟩:=gS (at1 (hs 0 _ rfl) cl9 rfl)
 obtain⟨s2,rfl⟩:=gS (at1 (hs 1 _ rfl) cl9 rfl)
 obtain⟨y,hy⟩:=hs 2 _ rfl
 change TR enc w m 116 (([Value.string s1,.string s2,d,e,f,g].drop 2).take (Tryz.prog.cellsOf 116))=some y at hy
 rw[cl40]at hy
 obtain⟨x,hx,hxo⟩:=rdE m _ _ hy
 simp only[List.drop_succ_cons,List.drop_zero,List.take_succ_cons,List.take_zero,E.row,List.cons.injEq,and_true]at hx
 obtain⟨rfl,rfl,rfl,rfl⟩:=hx
 exact⟨⟨s1,s2,x⟩,rfl,hxo⟩
theorem rdPo{n:Nat}{cs:List Value}{x:DataW H×List MemPlace}(h:TR enc w n 158 cs=some x):∃f:Po,Po.row f=cs/\E.Ok (qAX w) f.x:=by
 obtain⟨hl,m,-,hs⟩:=qBc Tryz.underlying158 h
 obtain⟨a,d,e,f,g,rfl⟩:=len5 (hl.trans cl61)
 obtain⟨s1,rfl⟩:=gS (at1 (hs 0 _ rfl) cl9 rfl)
 obtain⟨y,hy⟩:=hs 1 _ rfl
 change TR enc w m 116 (([Value.string s1,d,e,f,g].drop 1).take (Tryz.prog.cellsOf 116))=some y at hy
 rw[cl40]at hy
 obtain⟨x,hx,hxo⟩:=rdE m _ _ hy
 simp only[List.drop_succ_cons,List.drop_zero,List.take_succ_cons,List.take_zero,E.row,List.cons.injEq,and_true]at hx
 obtain⟨rfl,rfl,rfl,rfl⟩:=hx
 exact⟨⟨s1,x⟩,rfl,hxo⟩
theorem rdBd{n:Nat}{cs:List Value}{x:DataW H×List MemPlace}(h:TR enc w n 160 cs=some x):∃f:Bd,Bd.row f=cs/\E.Ok (qAX w) f.x:=by
 obtain⟨hl,m,-,hs⟩:=qBc Tryz.underlying160 h
 obtain⟨a,d,e,f,g,rfl⟩:=len5 (hl.trans cl64)
 obtain⟨s1,rfl⟩:=gS (at1 (hs 0 _ rfl) cl9 rfl)
 obtain⟨y,hy⟩:=hs 1 _ rfl
 change TR enc w m 116 (([Value.string s1,d,e,f,g].drop 1).take (Tryz.prog.cellsOf 116))=some y at hy
 rw[cl40]at hy
 obtain⟨x,hx,hxo⟩:=rdE m _ _ hy
 simp only[List.drop_succ_cons,List.drop_zero,List.take_succ_cons,List.take_zero,E.row,List.cons.injEq,and_true]at hx
 obtain⟨rfl,rfl,rfl,rfl⟩:=hx
 exact⟨⟨s1,x⟩,rfl,hxo⟩
theorem rdDs{n:Nat}{cs:List Value}{x:DataW H×List MemPlace}(h:TR enc w n 30 cs=some x):∃d:Ds,d.row=cs/\Ds.Ok (qAX w) d:=by
 obtain⟨hl,m,-,hs⟩:=qBc Tryz.underlying30 h
 obtain⟨a,b,c,d,e,f,g,i,rfl⟩:=len8 (hl.trans cl30)
 obtain⟨s1,rfl⟩:=gS (at1 (hs 0 _ rfl) cl9 rfl)
 obtain⟨l1,k1,rfl,h1,o1⟩:=gSl (row:=Ty.row) (ok:=Ty.Ok (qAX w)) Tryz.underlying22 cl94 (by decide) (fun _=>rfl) (fun _ _ _ _=>rdTy) (at1 (hs 1 _ rfl) cl22 rfl)
 obtain⟨l2,k2,rfl,h2⟩:=gF (at1 (hs 2 _ rfl) cl23 rfl)
 obtain⟨l3,k3,rfl,h3,o3⟩:=gSl (row:=Pr.row) (ok:=Pr.Ok (qAX w)) Tryz.underlying24 cl54 (by decide) (fun _=>rfl) (fun _ _ _ _=>rdPr) (at1 (hs 3 _ rfl) cl24 rfl)
 obtain⟨l4,k4,rfl,h4,o4⟩:=gSl (row:=Ms.row) (ok:=Ms.Ok (qAX w)) Tryz.underlying25 cl97 (by decide) (fun _=>rfl) (fun _ _ _ _=>rdMs) (at1 (hs 4 _ rfl) cl25 rfl)
 obtain⟨l5,k5,rfl,h5,o5⟩:=gSl (row:=Iv.row) (ok:=fun f=>E.Ok (qAX w) f.x) Tryz.underlying26 cl58 (by decide) (fun _=>rfl) (fun _ _ _ _=>rdIv) (at1 (hs 5 _ rfl) cl26 rfl)
 obtain⟨l6,k6,rfl,h6,o6⟩:=gSl (row:=Po.row) (ok:=fun f=>E.Ok (qAX w) f.x) Tryz.underlying27 cl61 (by decide) (fun _=>rfl) (fun _ _ _ _=>rdPo) (at1 (hs 6 _ rfl) cl27 rfl)
 obtain⟨l7,k7,rfl,h7,o7⟩:=gSl (row:=Bd.row) (ok:=fun f=>E.Ok (qAX w) f.x) Tryz.underlying28 cl64 (by decide) (fun _=>rfl) (fun _ _ _ _=>rdBd) (at1 (hs 7 _ rfl) cl28 rfl)
 exact⟨⟨s1,l1,k1,l2,k2,l3,k3,l4,k4,l5,k5,l6,k6,l7,k7⟩,rfl,⟨h1,o1,h2,h3,o3,h4,o4,h5,o5,h6,o6,h7,o7⟩⟩
end
end Go.Proofs
namespace Go.Proofs.YtginfholjbbgeaaGreatDoor
open Go Go.Sx Go.Proofs Go.ChangeShapes Go.WideShapes Go.ChangeAt Go.RowKit
theorem same_old{P:Program}{f:FuncId}{args:List Value}{W:World}{v:Value}(h:Pur P f args (qAX W) v):Calls P f args.toArray W fun e W'=>e=.returned v/\W'.os=W.os/\W'.output=W.output/\W.heap.size<=W'.heap.size/\∀b,b<W.heap.size->W'.heap[b]?=W.heap[b]?:=by
 have h2:Tri P f args.toArray (qAX W) fun e V'=>e=.returned v/\V'=qAX W:=h
 unfold Tri at h2
 refine qCD (h2 W (heapM_le W)) ?_
 rintro e W' ⟨V',⟨rfl,rfl⟩,hF⟩
 refine⟨rfl,hF.os,hF.out,hF.size,fun b hb=>?_⟩
 have:qAX W b=some W.heap[b]:=Array.getElem?_eq_getElem hb
 rw[hF.le b _ this];exact this.symm
theorem Tryz.own:ownKnob Tryz.prog.godebug=none:=by kernel_rfl
theorem Tryz.laidOut:laidOutB Tryz.prog=true:=by kernel_rfl
theorem tab_of{W:World}(h:Lib.TabIs Tryz.prog W "strings.asciiSpace" .u8 Lib.asciiSpaceTab):Tab (qAX W):=by
 have hg:Tryz.prog.globalNamed "strings.asciiSpace" = some 0:=by kernel_rfl
 unfold Lib.TabIs World.var? at h
 rw[hg,Option.bind_some]at h
 split at h
 ·rename_i cs t fr hb
  simp only[Option.some.injEq]at h
  exact⟨t,fr,by rw[<- h];exact hb⟩
 ·cases h
theorem desc_of{H:Type}{enc:TypeId×Value->H}{W:World}{v:Value}{d0:DataW H}{p:List MemPlace}(h:DataW.Trod enc Tryz.prog W 0 (fun _=>true) true 30 v d0 p):∃d:Ds,v=d.v/\Ds.Ok (qAX W) d:=by
 obtain⟨fuel,h⟩:=h
 obtain⟨d,hd,hok⟩:=rdDs h
 refine⟨d,?_,hok⟩
 have hl:v.cells.toList.length=8:=by rw[<- hd];rfl
 cases v with
 | agg cs =>
  have:cs.toList=d.row:=hd.symm
  show Value.agg cs=.agg d.row.toArray
  rw[<- this]
 | _=>simp[Value.cells]at hl
noncomputable def laidWorld(os:Os):World :=
 let w0:=World.holding Tryz.prog os ⟨#[.cells #[.int .u16 9,.int .u16 13,.int .u16 1,.int .u16 32,.int .u16 133,.int .u16 101,.int .u16 160,.int .u16 5760,.int .u16 5600,.int .u16 8192,.int .u16 8202,.int .u16 1,.int .u16 8232,.int .u16 8233,.int .u16 1,.int .u16 8239,.int .u16 8287,.int .u16 48,.int .u16 12288,.int .u16 12288,.int .u16 1] 344,
  .cells #[.slice (some ⟨(World.settled Tryz.prog os).heap.size,0,none⟩) 7 7,.slice none 0 0,.int .i64 2] 342],#[],[]⟩
 {w0 with heap:=(w0.heap.modify 0 fun
   | .cells _ t frozen=>.cells (Lib.asciiSpaceTab.map fun z=>Value.int .u8 z).toArray t frozen
   | o=>o).modify 1 fun
   | .cells _ t frozen=>.cells #[.pointer (some ⟨(World.settled Tryz.prog os).heap.size+1,0,none⟩)] t frozen
   | o=>o }
theorem qJu(os:Os)(args:Array Value):laidMet Tryz.prog [("unicode.White_Space",Rows.laid_unicode_White_Space),("strings.asciiSpace",Rows.laid_strings_asciiSpace)] ((laidWorld os).forCall (fun _ _=>0) ⟨#[],args,[]⟩).memory :=
 (LaidIn.of_run [0,1,(World.settled Tryz.prog os).heap.size,(World.settled Tryz.prog os).heap.size+1] 12 (by kernel_rfl) (by kernel_rfl) (by kernel_rfl) (by kernel_rfl)).met
end Go.Proofs.YtginfholjbbgeaaGreatDoor
namespace Go.Proofs.YtginfholjbbgeaaGreatDoor
open Go Go.Sx Go.Proofs Go.ChangeShapes Go.WideShapes Go.ChangeAt Go.RowKit
abbrev laid0:List (String×DataW Unit):=[("unicode.White_Space",Rows.laid_unicode_White_Space),("strings.asciiSpace",Rows.laid_strings_asciiSpace)]
theorem noHandles:(laid0.filter fun x=>x.2.handleName?.isSome)=[]:=by kernel_rfl
theorem qGx{w:World}:laidMetH Tryz.prog laid0 w↔laidMet Tryz.prog laid0 w:=by
 unfold laidMetH
 rw[noHandles]
theorem tab_laid{W:World}(h:laidMet Tryz.prog laid0 W):Tab (qAX W):=by
 obtain⟨ps,h1,h2,h3⟩:=h
 obtain⟨g,t,cs,fuel,p,q,hg,ht,hvar,hd,hrest,hps⟩:=h1
 obtain⟨g',t',cs',fuel',p',q',hg',ht',hvar',hd',hrest',hps'⟩:=hrest
 refine tab_of ?_
 unfold Lib.TabIs
 rw[hvar']
 have hgg:g'=0:=Option.some.inj (hg'.symm.trans (show Tryz.prog.globalNamed "strings.asciiSpace" = some 0 by kernel_rfl))
 subst hgg
 have htt:t'=325:=Option.some.inj (ht'.symm.trans (show (Tryz.prog.globals[0]?).map (·.type)=some 325 by kernel_rfl))
 subst htt
 have hdat:(Rows.laid_strings_asciiSpace:DataW Unit)=Lib.tabData .u8 Lib.asciiSpaceTab:=by kernel_rfl
 rw[hdat]at hd'
 rw[<- Lib.cells_of_tab (n:=256) (e:=5) Tryz.underlying325 Tryz.underlying5 (by kernel_rfl) (by kernel_rfl) hd']
theorem kept{W W':World}(h1:W'.os=W.os)(h2:W'.output=W.output)(hold:∀b,b<W.heap.size->W'.heap[b]?=W.heap[b]?)(may:MemPlace->Prop):W.keptBut W' may:=by
 refine⟨h1,h2,fun i hi=>?_⟩
 rw[hold i hi]
 split <;> simp_all
theorem again_arg{H:Type}{enc:TypeId×Value->H}{t:TypeId}(hr:Tryz.prog.readableRec t=true)(hrow:t<Tryz.prog.types.size){W W':World}{v:Value}{d:DataW H}{ps:List MemPlace}(h:DataW.Trod enc Tryz.prog W 0 (fun _=>true) true t v d ps)
  (hold:∀b,b<W.heap.size->W'.heap[b]?=W.heap[b]?) (hlt:∀x∈ps,x.block<W.heap.size):DataW.Trod enc Tryz.prog W' 0 (fun b=>decide (b<W.heap.size)) true t v d ps :=
 WideElems.Trod_stays Tryz.laidOut hr hrow h (fun x hx=>by
  have:=hlt x hx
  cases x with
  | cell b o=>exact World.cell?_of_block (w:=W) (hold b this)
  | map b=>exact hold b this) (fun x hx=>by simpa using hlt x hx)
theorem wit{C:Checked}{os:Os}{f:FuncId}{fn:Func}{s:ChangeSpec}{conds:List PathCond}{apart:Bool}{X:World->Array Value->Prop}{H:Type}{enc:TypeId×Value->H}(w0:World)(args:Array Value)(fuel:Nat)(hos:w0.os=os)
  (hv:(w0.forCall (fun _ _=>0) ⟨#[],args,[]⟩).variablesRefB C.prog=true)
  (hr:((w0.forCall (fun _ _=>0) ⟨#[],args,[]⟩).heap.toList.drop C.prog.globals.size).take ((begin C.prog (fun _ _=>0) default).world.heap.size-C.prog.globals.size) =
   (begin C.prog (fun _ _=>0) default).world.heap.toList.drop C.prog.globals.size)
  (hok:Input.okWideB C.prog (w0.forCall (fun _ _=>0) ⟨#[],args,[]⟩) f ⟨#[],args,[]⟩=true)
  (hpre:s.preB enc C.prog fn conds apart (w0.forCall (fun _ _=>0) ⟨#[],args,[]⟩).memory args fuel=true)
  (hsz:s.sizedB enc C.prog fn apart (w0.forCall (fun _ _=>0) ⟨#[],args,[]⟩).memory args fuel=true)
  (hx:X (w0.forCall (fun _ _=>0) ⟨#[],args,[]⟩).memory args) :
  ∃(w:World) (tape:Tape) (i:Input),w.os=os/\(w.forCall tape i).Shaped C.prog/\i.vars=[]/\Input.okWide C.prog (w.forCall tape i) .any w.heap.size f i /\
   ((s.pre enc C.prog fn conds apart (w.forCall tape i).memory i.args/\X (w.forCall tape i).memory i.args)/\sizedMet enc C.prog fn (OpenSpec.ofChange s) apart (w.forCall tape i).memory i.args)/\({}:Assume).holds C.prog (lone (Frame.enter C.prog f i.args .normal) [] (w.forCall tape i)) :=
 ⟨w0,fun _ _=>0,⟨#[],args,[]⟩,hos,World.shaped_of_RefB hv hr,(Input.okWide_of_okWideB (base:=0) hok).1,(Input.okWide_of_okWideB hok).2,⟨⟨ChangeSpec.pre_of_preB hpre,hx⟩,sizedMet_of_sizedB hsz⟩,by
  first|exact⟨trivial,trivial⟩|simp[Assume.holds]⟩
theorem again_all{H:Type}{enc:TypeId×Value->H}{W W':World}(hold:∀b,b<W.heap.size->W'.heap[b]?=W.heap[b]?):∀{ts:List TypeId} {vs:List Value} {ds:List (DataW H)} {ps:List MemPlace},(∀t∈ts,Tryz.prog.readableRec t=true/\t<Tryz.prog.types.size) ->
  DataW.TrodAll enc Tryz.prog W 0 (fun _=>true) true ts vs ds ps->(∀x∈ps,x.block<W.heap.size)->DataW.TrodAll enc Tryz.prog W' 0 (fun b=>decide (b<W.heap.size)) true ts vs ds ps
 | [],_,_,_,_,h,_=>by
  obtain⟨rfl,rfl,rfl⟩:=trodAll_nil h
  exact trodAll_mk0
 | t::ts,_,_,_,hr,h,hlt=>by
  obtain⟨v,vs,d,ds,p,q,rfl,rfl,rfl,h1,h2⟩:=trodAll_cons h
  exact⟨p,q,again_arg (hr t (by simp)).1 (hr t (by simp)).2 h1 hold (fun x hx=>hlt x (List.mem_append_left _ hx)),again_all hold (fun u hu=>hr u (by simp[hu])) h2 (fun x hx=>hlt x (List.mem_append_right _ hx)),rfl⟩
end Go.Proofs.YtginfholjbbgeaaGreatDoor
namespace Go.Proofs.YtginfholjbbgeaaGreatDoor
open Go Go.Sx Go.Proofs Go.ChangeShapes Go.WideShapes Go.ChangeAt Go.RowKit
section
variable{H:Type}{enc:TypeId×Value->H}{w:World}
theorem cl31:Tryz.prog.cellsOf 31=1:=by kernel_rfl
theorem clNd:Tryz.prog.cellsOf 104=2:=by kernel_rfl
theorem clNds:Tryz.prog.cellsOf 32=1:=by kernel_rfl
theorem clMm:Tryz.prog.cellsOf 34=2:=by kernel_rfl
theorem gInts{m:Nat}{v:Value}(h:∃y,TR enc w m 31 [v]=some y):∃(s:Sl) (xs:List Int),v=.slice s.p s.n s.c/\qAc (qAX w) s 1 (xs.map qAn)/\∀x∈xs,inI x :=
 gSl (row:=qAn) (ok:=inI) Tryz.underlying31 cl3 (by decide) (fun _=>rfl) (fun m' _ cs x hx=>by
  obtain⟨n,rfl,hn⟩:=rd_int Tryz.underlying3 hx
  exact⟨n,rfl,hn⟩) h
theorem rdNd{n:Nat}{cs:List Value}{x:DataW H×List MemPlace}(h:TR enc w n 104 cs=some x):∃f:Nd,Nd.row f=cs/\Nd.Ok (qAX w) f:=by
 obtain⟨hl,m,-,hs⟩:=qBc Tryz.underlying104 h
 obtain⟨a,b,rfl⟩:=len2 (hl.trans clNd)
 obtain⟨t,rfl,ht⟩:=gI (at1 (hs 0 _ rfl) cl3 rfl)
 obtain⟨l,k,rfl,hr,hk⟩:=gInts (at1 (hs 1 _ rfl) cl31 rfl)
 exact⟨⟨t,l,k⟩,rfl,⟨hr,ht,hk⟩⟩
theorem rdMm{n:Nat}{cs:List Value}{x:DataW H×List MemPlace}(h:TR enc w n 34 cs=some x):∃m:Mm,m.row=cs/\Mm.Ok (qAX w) m:=by
 obtain⟨hl,m,-,hs⟩:=qBc Tryz.underlying34 h
 obtain⟨a,b,rfl⟩:=len2 (hl.trans clMm)
 obtain⟨l1,k1,rfl,h1,o1⟩:=gInts (at1 (hs 0 _ rfl) cl31 rfl)
 obtain⟨l2,k2,rfl,h2,o2⟩:=gSl (row:=Nd.row) (ok:=Nd.Ok (qAX w)) Tryz.underlying32 clNd (by decide) (fun _=>rfl) (fun _ _ _ _=>rdNd) (at1 (hs 1 _ rfl) clNds rfl)
 exact⟨⟨l1,k1,l2,k2⟩,rfl,⟨h1,o1,h2,o2⟩⟩
theorem clCl:Tryz.prog.cellsOf 48=2:=by kernel_rfl
theorem rdCl{n:Nat}{cs:List Value}{x:DataW H×List MemPlace}(h:TR enc w n 48 cs=some x):∃(nm:ByteArray) (l:Sl) (xs:List Int),[Value.string nm,l.v]=cs/\qAc (qAX w) l 1 (xs.map qAn):=by
 obtain⟨hl,m,-,hs⟩:=qBc Tryz.underlying48 h
 obtain⟨a,b,rfl⟩:=len2 (hl.trans clCl)
 obtain⟨t,rfl⟩:=gS (at1 (hs 0 _ rfl) cl9 rfl)
 obtain⟨l,k,rfl,hr,-⟩:=gInts (at1 (hs 1 _ rfl) cl31 rfl)
 exact⟨t,l,k,rfl,hr⟩
end
theorem mem_of{H:Type}{enc:TypeId×Value->H}{W:World}{v:Value}{d0:DataW H}{p:List MemPlace}(h:DataW.Trod enc Tryz.prog W 0 (fun _=>true) true 34 v d0 p):∃m:Mm,v=m.v/\Mm.Ok (qAX W) m:=by
 obtain⟨fuel,h⟩:=h
 obtain⟨m,hm,hok⟩:=rdMm h
 refine⟨m,?_,hok⟩
 have hl:v.cells.toList.length=2:=by rw[<- hm];rfl
 cases v with
 | agg cs =>
  have:cs.toList=m.row:=hm.symm
  show Value.agg cs=.agg m.row.toArray
  rw[<- this]
 | _=>simp[Value.cells]at hl
theorem u16R{n:Int}(h:(Lit.int .u16 n).wf=true):0<=n/\n<=65535:=by
 simp only[Lit.wf,Bool.and_eq_true,decide_eq_true_eq]at h
 exact⟨h.1,h.2⟩
end Go.Proofs.YtginfholjbbgeaaGreatDoor
namespace Go.Proofs
open Go Go.Sx
attribute [local irreducible] Go.Sx.Tri
section
variable{V0 V V1:Mem}{d:Ds}{p F:Nat}{c k:Int}{s:St}
end
section
variable{V0 V V1:Mem}{d:Ds}{p F c q:Nat}{s:St}{pr:Pr}{vals:List Int}
end
section
variable{x y:St->Rx Int}{s s1 s2:St}{acc:List Int}{k:Int}
end
section
variable{V0 W V V1:Mem}{d:Ds}{p F c q:Nat}{s:St}{pr:Pr}{vals:List Int}
end
section
variable{V0 W V V1:Mem}{d:Ds}{p F c q:Nat}{s:St}{pr:Pr}{vals:List Int}
end
section
variable{W V0 V V1 V':Mem}{d:Ds}{p F c q:Nat}{s:St}{pr:Pr}{vals:List Int}
end
section
variable{W V0 V V1 V':Mem}{d:Ds}{p F c q:Nat}{s:St}{pr:Pr}{vals:List Int}
end
section
variable{V0 V:Mem}{d:Ds}{p F:Nat}{s:St}
end
section
variable{V V0:Mem}{d:Ds}{m:Mm}{F:Nat}{nm:ByteArray}{args:List Int}{l:Sl}
theorem qHF(G:qAo d m):m.globals.length<=2147483648/\m.nodes.length<=4096/\∀n∈m.nodes,n.f.length<=2147483648:=by
 obtain⟨p1,p2,p3,p4,p5⟩:=qAt G.mem
 have h12:=lens12 G.valid
 refine⟨by have:=(qAz.1 p4).1;omega,p2,fun n hn=>?_⟩
 have:=(qAz.1 (p5 n hn)).1
 have hty:=of_decide_eq_true (p3 n hn)
 obtain⟨j,hj⟩:∃j:Nat,n.ty=(j:Int):=⟨n.ty.toNat,by omega⟩
 have hjl:j<d.types.length:=by omega
 have hx:=List.getElem?_eq_getElem hjl
 rw[hj,qBu hx rfl]at this
 have:=h12.2 _ (List.getElem_mem hjl)
 omega
end
section
variable{V V0:Mem}{d:Ds}{m:Mm}{nm:ByteArray}{args:List Int}{l:Sl}
theorem given_fuel{F:Int}(h:qBs d m F=0):0<=F/\F<=1048576:=by
 unfold qBs at h
 split at h
 ·split at h
  ·cases h
  ·split at h
   ·cases h
   ·omega
 ·cases h
end
def rsS(s:St):St:=⟨s.g,s.ns,0,0,[]⟩
abbrev O4:=Int×Int×Nat×Nat
def oRow(o:O4):List Value:=qDv o.1 o.2.1 o.2.2.1 o.2.2.2
def outO(r:Rx Int):O4:=(outC r,outV r,r.st.cm,qCl r.st.lg)
structure Cl2 where
 name:ByteArray
 sl:Sl
 args:List Int
def Cl2.row(c:Cl2):List Value:=[.string c.name,c.sl.v]
structure Cls.Ok (V:Mem) (l:Sl) (cs:List Cl2):Prop where
 rows:qAc V l 2 (cs.map Cl2.row)
 args:∀c∈cs,qAc V c.sl 1 (c.args.map qAn)
theorem Cls.Ok.sub{V V':Mem}{l:Sl}{cs:List Cl2}(h:Cls.Ok V l cs)(hs:V.sub V'):Cls.Ok V' l cs:=⟨h.rows.sub hs,fun c hc=>(h.args c hc).sub hs⟩
section
variable(d:Ds)(F:Nat)
def qEL(c:Cl2)(s:St):Rx Int:=qCq d F (qDT d c.name) c.args s
def scE:St->List Cl2->Int
 | _,[]=>0
 | s,c::cs=>if qCn d s.mm c.name c.args=0 then scE (rsS (qEL d F c s).st) cs else qCn d s.mm c.name c.args
def scO:St->List Cl2->List O4
 | _,[]=>[]
 | s,c::cs=>outO (qEL d F c s)::scO (rsS (qEL d F c s).st) cs
def scS:St->List Cl2->St
 | s,[]=>s
 | s,c::cs=>scS (rsS (qEL d F c s).st) cs
end
noncomputable def scrE(d:Ds)(F:Int)(m:Mm)(cs:List Cl2):Int:=if qBs d m F=0 then (if 2000<cs.length then 4 else scE d F.toNat (qBG m) cs) else qBs d m F
theorem loop6{V:Mem}{B:Sl->Sl->Sl->Int->Sl->Int->Mem->(List Value->Mem->Prop)->Prop}{a0 b0 x0:Sl}{y0:Int}{c0:Sl}(len:Nat)(St:Nat->Sl->Sl->Sl->Mem->Prop)(h0:St 0 a0 b0 c0 V)
  (step:∀(i:Nat) (a b x:Sl) (y:Int) (c:Sl) V1 J,i<=len->St i a b c V1->(i<len->∀(a' b' x':Sl) (y':Int) (c':Sl) V2,St (i+1) a' b' c' V2->J [.slice a'.p a'.n a'.c,.slice b'.p b'.n b'.c,.slice x'.p x'.n x'.c,.int .i64 y',.slice c'.p c'.n c'.c,.int .i64 ((i:Int)+1)] V2)->B a b x y c (i:Int) V1 J) :
  ∃(I:Nat->List Value->Mem->Prop) (n0:Nat),I n0 [.slice a0.p a0.n a0.c,.slice b0.p b0.n b0.c,.slice x0.p x0.n x0.c,.int .i64 y0,.slice c0.p c0.n c0.c,.int .i64 0] V/\∀n V1,∀(a b x:Sl) (y:Int) (c:Sl) (v:Int),I n [.slice a.p a.n a.c,.slice b.p b.n b.c,.slice x.p x.n x.c,.int .i64 y,.slice c.p c.n c.c,.int .i64 v] V1->∀J:List Value->Mem->Prop,(∀m ys V'',m<n->I m ys V''->J ys V'')->B a b x y c v V1 J:=by
 refine⟨LI len fun i xs V=>∃(a b x:Sl) (y:Int) (c:Sl),xs=[.slice a.p a.n a.c,.slice b.p b.n b.c,.slice x.p x.n x.c,.int .i64 y,.slice c.p c.n c.c,.int .i64 i]/\St i a b c V,len,LI.start ⟨a0,b0,x0,y0,c0,rfl,h0⟩,?_⟩
 rintro n V1 a b x y c v ⟨i,rfl,hi,a',b',x',y',c',hx,hs⟩ J hJ
 simp only[List.cons.injEq,Value.int.injEq,true_and,and_true]at hx
 obtain⟨h1,h2,h3,rfl,h5,rfl⟩:=hx
 cases qCY _ _ h1
 cases qCY _ _ h2
 cases qCY _ _ h5
 exact step i _ _ _ _ _ V1 J hi hs fun hlt a' b' x' y' c' V2 h2=>LI.next hJ hlt ⟨a',b',x',y',c',rfl,h2⟩
theorem app71:AppP 71 54 5 oRow:=appG Tryz.underlying71 (by kernel_rfl) (by kernel_rfl) (by kernel_rfl) (by kernel_rfl) (by kernel_rfl) (by decide) (by intro _;rfl) fun x u hu=>by simp only[oRow,qDv,List.mem_cons,List.not_mem_nil,or_false]at hu;rcases hu with rfl|rfl|rfl|rfl|rfl <;> rfl
theorem one_out{V:Mem}{b t:Nat}(o:O4)(h:V b=some (.cells (oRow o).toArray t (0,0))):qAc V ⟨some ⟨b,0,none⟩,1,1⟩ 5 ([o].map oRow) :=
 qAc.cells (xs:=[o]) (row:=oRow) h rfl (fun _=>rfl) rfl (by simp)
section
variable{V V0:Mem}{d:Ds}{F:Nat}{m:Mm}{l:Sl}{cs:List Cl2}
theorem mm_len'{s:St}{a b:Sl}{nd:List Nd}(h:nd.map (fun n=>(n.ty,n.f))=s.ns):(⟨a,s.g,b,nd⟩:Mm).plain=s.mm.plain:=by
 rw[St.plain];unfold Mm.plain;rw[h]
theorem lay_rs{W V:Mem}{gs ns ls:Sl}{nd:List Nd}{s:St}(L:Lay W V gs ns ls nd s):Lay W V gs ns qAv nd (rsS s):=⟨L.glob,L.nodes,Own.nil L.sub _ _,L.fld,L.eq,L.gf,L.ff⟩
theorem st_eta{s:St}(h:s=rsS s){a b:Sl}{nd:List Nd}(he:nd.map (fun n=>(n.ty,n.f))=s.ns):qBG ⟨a,s.g,b,nd⟩=s:=by
 rw[h];unfold qBG rsS;simp only[he]
def ScrP(V:Mem)(d:Ds)(F:Int)(m:Mm)(cs:List Cl2):Ending->Mem->Prop:=fun e V'=>V.sub V' /\
 ((scrE d F m cs≠0/\e=.returned (.tuple #[qAv.v,.agg #[qAv.v,qAv.v],.int .i64 (scrE d F m cs)])) ∨
 (scrE d F m cs=0/\∃(o a b:Sl) (nd:List Nd),qAc V' o 5 ((scO d F.toNat (qBG m) cs).map oRow)/\Mm.Ok V' ⟨a,(scS d F.toNat (qBG m) cs).g,b,nd⟩/\nd.map (fun n=>(n.ty,n.f))=(scS d F.toNat (qBG m) cs).ns/\qAo d (scS d F.toNat (qBG m) cs).mm/\e=.returned (.tuple #[o.v,.agg #[a.v,b.v],.int .i64 0])))
structure At (d:Ds) (F:Nat) (s0:St) (cs:List Cl2) (j:Nat) (outs:List O4) (s:St):Prop where
 err:scE d F s0 cs=scE d F s (cs.drop j)
 out:scO d F s0 cs=outs++scO d F s (cs.drop j)
 st:scS d F s0 cs=scS d F s (cs.drop j)
 len:outs.length=j
 rs:s=rsS s
 good:qAo d s.mm
theorem At.start{s:St}(h:s=rsS s)(G:qAo d s.mm):At d F s cs 0 [] s:=⟨by rw[List.drop_zero],by rw[List.drop_zero];rfl,by rw[List.drop_zero],rfl,h,G⟩
theorem At.next{s0 s:St}{j:Nat}{outs:List O4}{c:Cl2}(h:At d F s0 cs j outs s)(hc:cs.drop j=c::cs.drop (j+1))(h0:qCn d s.mm c.name c.args=0)(hg:qAo d (qEL d F c s).st.mm):At d F s0 cs (j+1) (outs++[outO (qEL d F c s)]) (rsS (qEL d F c s).st):=by
 have e1:=h.err
 have e2:=h.out
 have e3:=h.st
 rw[hc]at e1 e2 e3
 refine⟨?_,?_,e3,by rw[List.length_append,h.len];rfl,rfl,⟨hg.valid,hg.chk,hg.mem⟩⟩
 ·rw[e1,scE,if_pos h0]
 ·rw[e2,scO];simp
theorem At.stop{s0 s:St}{j:Nat}{outs:List O4}{c:Cl2}(h:At d F s0 cs j outs s)(hc:cs.drop j=c::cs.drop (j+1))(h0:qCn d s.mm c.name c.args≠0):scE d F s0 cs=qCn d s.mm c.name c.args:=by
 rw[h.err,hc,scE,if_neg h0]
theorem scr_zero{F:Int}(h:scrE d F m cs=0):qAo d m:=by
 unfold scrE at h
 split at h
 ·exact qEp (by assumption)
 ·contradiction
theorem c23[Tab V](hd:Ds.Ok V d)(hm:Mm.Ok V m)(hcs:Cls.Ok V l cs){F:Int}(hF:F<=3000∨1048576<F):Tri Tryz.prog 23 #[d.v,m.v,l.v,.int .i64 F] V (ScrP V d F m cs):=by
 refine x23 (R:=ScrP V d F m cs) ?_
 unfold w23
 have hln:=hcs.rows.n_eq
 have bad:∀{k:Int} {V':Mem},scrE d F m cs=k->k≠0->V.sub V'->ScrP V d F m cs (.returned (.tuple #[qAv.v,.agg #[qAv.v,qAv.v],.int .i64 k])) V':=fun h hk hs=>⟨hs,.inl ⟨by rw[h];exact hk,by rw[h]⟩⟩
 refine(c43 hd hm).call ⟨_,rfl,fun h0=>⟨fun hl=>?_,fun hl=>?_⟩,fun h0=>?_⟩
 ·exact bad (by unfold scrE;rw[if_pos h0,if_pos (by have hl:(2000:Int)<(l.n:Int):=hl;omega)]) (by decide) (Mem.sub.refl _)
 rotate_left
 ·exact bad (by unfold scrE;rw[if_neg h0]) h0 (Mem.sub.refl _)
 have hl:¬(2000:Int)<(l.n:Int):=hl
 have G:=qEp h0
 have hf:=given_fuel h0
 obtain⟨n,rfl⟩:∃n:Nat,F=(n:Int):=⟨F.toNat,by omega⟩
 have hsc:scrE d (n:Int) m cs=scE d n (qBG m) cs:=by unfold scrE;rw[if_pos h0,if_neg (by omega)];rfl
 obtain⟨l1,l2,l3⟩:=qHF G
 refine Tri.mono (c44 hm l1 l2 l3) ?_
 rintro _ V1 ⟨gs,ns,nd,rfl,L⟩
 refine⟨gs,ns,rfl,loop6 (x0:=qAv) (y0:=0) (c0:=qAv) cs.length (fun j a b o V2=>∃W outs s nd,V.sub W/\Sx.Own V W 54 5 o (outs.flatMap oRow)/\Lay W V2 a b qAv nd s/\At d n (qBG m) cs j outs s) ⟨V,[],qBG m,nd,Mem.sub.refl _,Own.nil (Mem.sub.refl _) _ _,L,.start rfl (qJy G)⟩ ?_⟩
 rintro j a b x y o V2 J hj ⟨W,outs,s,nd,hW,ho,L,A⟩ hJ
 have hc2:=hcs.sub (hW.trans L.sub)
 refine⟨fun hlt=>?_,fun hge=>?_⟩
 ·obtain⟨c,hcm,hc,hdr,hjl,hp,hz,hrow⟩:=hc2.rows.get hlt
  have hst:=st_eta (a:=a) (b:=b) A.rs L.eq
  have Gm:qAo d ⟨a,s.g,b,nd⟩:=⟨A.good.valid,A.good.chk,qCG (mm_len' L.eq).symm A.good.mem⟩
  have hmk:=(qDZ (hd.sub hW) L A.good).1
  have hcl:qCn d ⟨a,s.g,b,nd⟩ c.name c.args=qCn d s.mm c.name c.args:=qGh (mm_len' L.eq)
  refine⟨hp,hz,hlt,_,_,hrow,Tri.mono (c45 (F:=n) (m:=⟨a,s.g,b,nd⟩) ⟨hd.sub hW,G.valid,qGO G.valid G.chk,by omega⟩ (by rw[hst];exact L) hmk Gm ((hcs.args c hcm).sub hW)) ?_⟩
  rintro e V3 (⟨hk,s3,rfl⟩|⟨hk,p,cc,r,hr,M,rfl⟩)
  ·rw[hcl]at hk ⊢
   exact⟨_,_,_,_,_,_,_,rfl,fun h=>absurd h hk,fun _=>bad (hsc.trans (A.stop hdr hk)) hk (hW.trans (L.sub.trans s3))⟩
  ·rw[hcl]at hk
   rw[hst]at hr
   have hr:r=qEL d n c s:=hr
   refine⟨_,_,_,_,_,_,_,rfl,fun _ tb htb=>?_,fun h=>absurd rfl h⟩
   have ho3:Sx.Own V V3 54 5 o (outs.flatMap oRow):=Own.moveB ho (hW.trans M.sub) fun g cur _ hg=>M.sub _ _ hg
   refine app71 (s:=o) (u:=⟨some ⟨tb,0,none⟩,1,1⟩) (xs:=outs) (ys:=[outO r]) rfl rfl (ho3.but.new htb (.cells (oRow (outO r)).toArray 54 (0,0))) (one_out (outO r) mss) (by have:=A.len;simp;omega) fun o4 V4 ho4=>⟨o4,rfl,?_⟩
   obtain⟨W',hW',M4,ho5⟩:=M.beside hW ho ho4
   obtain⟨gs4,ns4,ls4,nd4,hat,L4⟩:=M4.ex
   have hgd:qAo d (qEL d n c s).st.mm:=by
    have:=play_good (F:=n) Gm (by rw[hcl];exact hk)
    rw[hst]at this;exact this
   have A':=A.next hdr hk hgd
   rw[<- hr]at A'
   exact⟨nn,nn,gs4,ns4,qAd hat 8 2 (by simp[qBE]),hc2.rows.succ hlt,hJ hjl _ _ _ _ _ _ ⟨W',_,_,nd4,hW',ho5,lay_rs L4,A'⟩⟩
 ·have hdn:=(hc2.rows.done hge).2
  have e1:=A.err
  have e2:=A.out
  have e3:=A.st
  rw[List.drop_eq_nil_of_le hdn]at e1 e2 e3
  have e1:scE d n (qBG m) cs=0:=e1
  have e2:scO d n (qBG m) cs=outs:=by rw[e2];simp[scO]
  have e3:scS d n (qBG m) cs=s:=e3
  refine⟨hW.trans L.sub,.inr ⟨hsc.trans e1,o,a,b,nd,?_,?_,?_,?_,rfl⟩⟩
  ·show qAc V2 o 5 ((scO d n (qBG m) cs).map oRow)
   rw[e2];exact(ho.rows (fun _=>rfl) (by decide)).sub L.sub
  ·show Mm.Ok V2 ⟨a,(scS d n (qBG m) cs).g,b,nd⟩
   rw[e3];exact(qDZ (hd.sub hW) L A.good).1
  ·show _=(scS d n (qBG m) cs).ns
   rw[e3];exact L.eq
  ·show qAo d (scS d n (qBG m) cs).mm
   rw[e3];exact A.good
end
section
variable{V V0:Mem}{d:Ds}{F:Nat}{m:Mm}{l:Sl}{cs:List Cl2}
end
end Go.Proofs
namespace Go.Proofs.YtginfholjbbgeaaGreatDoor
open Go Go.Sx Go.Proofs Go.ChangeShapes Go.WideShapes Go.ChangeAt Go.RowKit
set_option maxRecDepth 100000 in
theorem cls_of{H:Type}{enc:TypeId×Value->H}{W W':World}{r:Reach}{b0:Nat}{v:Value}{d0:DataW H}{p:List MemPlace}(hval:Value.okWide Tryz.prog W' r b0 70 v)(h:DataW.Trod enc Tryz.prog W 0 (fun _=>true) true 70 v d0 p):∃(l:Sl) (cs:List Cl2),v=l.v/\Cls.Ok (qAX W) l cs:=by
 obtain⟨a,len,cap,rfl⟩:=okWide_slice Tryz.underlying70 hval
 obtain⟨fuel,h⟩:=h
 have h:∃y,TR enc W fuel 70 [.slice a len cap]=some y:=⟨_,h⟩
 obtain⟨s,cs,hs,hr,hk⟩:=gSl (row:=Cl2.row) (ok:=fun c:Cl2=>qAc (qAX W) c.sl 1 (c.args.map qAn)) Tryz.underlying70 clCl (by decide) (fun _=>rfl) (fun m' _ cs x hx=>by
  obtain⟨nm,l,xs,hm,hok⟩:=rdCl hx
  exact⟨⟨nm,l,xs⟩,hm,hok⟩) h
 exact⟨s,cs,hs,hr,hk⟩
end Go.Proofs.YtginfholjbbgeaaGreatDoor
namespace Go.Proofs
open Go Go.Sx
structure En where
 node:Int
 field:Int
 old:Int
 new:Int
 al:Bool
 typ:Int
 size:Int
def qGI(x:Gm)(n i:Nat):Int:=if n=0 then x.1.getD i 0 else ((x.2.getD (n-1) (0,[])).2).getD i 0
def qIt(x:Gm)(n i:Nat)(v:Int):Gm:=if n=0 then (x.1.set i v,x.2) else match x.2[n-1]? with
 | some y=>(x.1,x.2.set (n-1) (y.1,y.2.set i v))
 | none=>x
def qHY(x:Gm)(e:En):Gm:=if e.al=true then (x.1,x.2.take (e.node-1).toNat) else qIt x e.node.toNat e.field.toNat e.old
def qGH(x:Gm)(e:En):Gm:=if e.al=true then (x.1,x.2++[(e.typ,List.replicate e.size.toNat 0)]) else qIt x e.node.toNat e.field.toNat e.new
def qIe(d:Ds)(b a:Gm)(t:Int×Int×Int):List En :=
 if t.1=2 then [⟨t.2.1,t.2.2,qGI b t.2.1.toNat t.2.2.toNat,qGI a t.2.1.toNat t.2.2.toNat,false,0,0⟩]
 else if t.1=3 then [⟨t.2.1,0,0,0,true,t.2.2,((qAm d t.2.2).length:Int)⟩] else []
def qBF(d:Ds)(b a:Gm)(l:List (Int×Int×Int)):List En:=l.flatMap (qIe d b a)
def Sh(u x:Gm):Prop:=u.1.length=x.1.length/\(u.2.map fun y=>(y.1,y.2.length))=x.2.map fun y=>(y.1,y.2.length)
def Qp(B:Nat->Nat->Int)(u x:Gm):Prop:=Sh u x/\∀n i,qGI u n i=qGI x n i∨qGI u n i=B n i
section
variable{u x y:Gm}{B:Nat->Nat->Int}
theorem Sh.refl(x:Gm):Sh x x:=⟨rfl,rfl⟩
theorem Sh.len(h:Sh u x):u.2.length=x.2.length:=by have:=congrArg List.length h.2;simpa using this
theorem Sh.at_(h:Sh u x){k:Nat}{t:Int}{f:List Int}(hk:x.2[k]?=some (t,f)):∃f',u.2[k]?=some (t,f')/\f'.length=f.length:=by
 have h2:=congrArg (fun l=>l[k]?) h.2
 simp only[List.getElem?_map,hk,Option.map_some]at h2
 cases hu:u.2[k]? with
 | none=>rw[hu]at h2;cases h2
 | some y =>
  rw[hu]at h2
  simp only[Option.map_some,Option.some.injEq,Prod.mk.injEq]at h2
  exact⟨y.2,by rw[<- h2.1],h2.2⟩
theorem Sh.symm(h:Sh u x):Sh x u:=⟨h.1.symm,h.2.symm⟩
theorem loc_g(x:Gm)(i:Nat):qGI x 0 i=x.1.getD i 0:=rfl
theorem qFw(x:Gm)(k i:Nat):qGI x (k+1) i=((x.2.getD k (0,[])).2).getD i 0:=rfl
theorem loc_at{k i:Nat}{t:Int}{f:List Int}(h:x.2[k]?=some (t,f)):qGI x (k+1) i=f.getD i 0:=by
 have e:x.2.getD k (0,[])=(t,f):=by rw[List.getD_eq_getElem?_getD,h];rfl
 rw[qFw,e]
theorem ext_loc(h:Sh u x)(hl:∀n i,qGI u n i=qGI x n i):u=x:=by
 refine Prod.ext (List.ext_getElem? fun i=>?_) (List.ext_getElem? fun k=>?_)
 ·have:=hl 0 i
  rw[loc_g,loc_g,List.getD_eq_getElem?_getD,List.getD_eq_getElem?_getD]at this
  by_cases hi:i<x.1.length
  ·rw[List.getElem?_eq_getElem hi,List.getElem?_eq_getElem (h.1 ▸ hi)]at this ⊢
   exact congrArg some this
  ·have h1:=h.1
   rw[List.getElem?_eq_none (by omega),List.getElem?_eq_none (by omega)]
 ·cases hk:x.2[k]? with
  | none =>
   rw[List.getElem?_eq_none_iff]at hk ⊢
   rw[h.len];exact hk
  | some y =>
   obtain⟨f',h1,h2⟩:=h.at_ (t:=y.1) (f:=y.2) hk
   rw[h1]
   refine congrArg some (Prod.ext rfl (List.ext_getElem? fun i=>?_))
   have:=hl (k+1) i
   rw[loc_at h1,loc_at (t:=y.1) (f:=y.2) hk,List.getD_eq_getElem?_getD,List.getD_eq_getElem?_getD]at this
   show f'[i]?=y.2[i]?
   by_cases hi:i<y.2.length
   ·rw[List.getElem?_eq_getElem hi,List.getElem?_eq_getElem (h2 ▸ hi)]at this ⊢
    exact congrArg some this
   ·rw[List.getElem?_eq_none (by omega),List.getElem?_eq_none (by omega)]
theorem Qp.eq(h:Qp (qGI x) u x):u=x:=ext_loc h.1 fun n i=>(h.2 n i).elim id id
theorem getD_sett{l:List Int}{i j:Nat}{v:Int}(hi:i<l.length):(l.set i v).getD j 0=if j=i then v else l.getD j 0:=by
 rw[List.getD_eq_getElem?_getD,List.getD_eq_getElem?_getD,List.getElem?_set]
 by_cases h:i=j
 ·subst h;rw[if_pos rfl,if_pos rfl,if_pos hi];rfl
 ·rw[if_neg h,if_neg (Ne.symm h)]
theorem set_g(x:Gm)(i:Nat)(v:Int):qIt x 0 i v=(x.1.set i v,x.2):=rfl
theorem set_n{k i:Nat}{t v:Int}{f:List Int}(h:x.2[k]?=some (t,f)):qIt x (k+1) i v=(x.1,x.2.set k (t,f.set i v)):=by
 unfold qIt
 rw[if_neg (by omega),show k+1-1=k by omega,h]
theorem qIs{n i:Nat}{v:Int}:Sh (qIt x n i v) x:=by
 unfold qIt
 split
 ·exact⟨by simp,rfl⟩
 ·split
  ·rename_i y hy
   refine⟨rfl,List.ext_getElem? fun k=>?_⟩
   rw[List.getElem?_map,List.getElem?_map,List.getElem?_set]
   split
   ·rename_i e;subst e
    rw[if_pos (List.getElem?_eq_some_iff.1 hy).1,hy];simp
   ·rfl
  ·exact Sh.refl x
def InP(x:Gm)(n i:Nat):Prop:=(n=0/\i<x.1.length)∨∃k t f,n=k+1/\x.2[k]?=some (t,f)/\i<f.length
theorem InP.sh{n i:Nat}(h:InP x n i)(hs:Sh u x):InP u n i:=by
 rcases h with⟨rfl,h⟩|⟨k,t,f,rfl,h1,h2⟩
 ·exact .inl ⟨rfl,by rw[hs.1];exact h⟩
 ·obtain⟨f',e1,e2⟩:=hs.at_ h1
  exact .inr ⟨k,t,f',rfl,e1,by omega⟩
theorem qJs{n i:Nat}{v:Int}(h:InP x n i)(m j:Nat):qGI (qIt x n i v) m j=if m=n/\j=i then v else qGI x m j:=by
 rcases h with⟨rfl,h⟩|⟨k,t,f,rfl,h1,h2⟩
 ·rw[set_g]
  cases m with
  | zero =>
   rw[loc_g,loc_g,getD_sett h]
   by_cases hj:j=i
   ·rw[if_pos hj,if_pos ⟨rfl,hj⟩]
   ·rw[if_neg hj,if_neg fun e=>hj e.2]
  | succ m=>rw[qFw,qFw,if_neg fun e=>by have:=e.1;omega]
 ·rw[set_n h1]
  cases m with
  | zero=>rw[loc_g,loc_g,if_neg fun e=>by have:=e.1;omega]
  | succ m =>
   by_cases hm:m=k
   ·subst hm
    have hl:=(List.getElem?_eq_some_iff.1 h1).1
    rw[loc_at (x:=(x.1,x.2.set m (t,f.set i v))) (t:=t) (f:=f.set i v) (by show (x.2.set m _)[m]?=_;rw[List.getElem?_set_self hl]),loc_at h1,getD_sett h2]
    by_cases hj:j=i
    ·rw[if_pos hj,if_pos ⟨rfl,hj⟩]
    ·rw[if_neg hj,if_neg fun e=>hj e.2]
   ·rw[qFw,qFw,if_neg fun e=>hm (by have:=e.1;omega)]
    have e:(x.2.set k (t,f.set i v)).getD m (0,[])=x.2.getD m (0,[]):=by rw[List.getD_eq_getElem?_getD,List.getElem?_set_ne (Ne.symm hm),<- List.getD_eq_getElem?_getD]
    show ((x.2.set k (t,f.set i v)).getD m (0,[])).2.getD j 0=_
    rw[e]
theorem Sh.trans{z:Gm}(h:Sh u x)(k:Sh x z):Sh u z:=⟨h.1.trans k.1,h.2.trans k.2⟩
theorem Qp.fwd{n i:Nat}{v:Int}(h:Qp B u x)(hi:InP x n i):Qp B (qIt u n i (B n i)) (qIt x n i v):=⟨(qIs.trans h.1).trans qIs.symm,fun m j=>by
 rw[qJs (hi.sh h.1),qJs hi]
 by_cases e:m=n/\j=i
 ·right;rw[if_pos e,e.1,e.2]
 ·rw[if_neg e,if_neg e];exact h.2 m j⟩
theorem Qp.bwd{n i:Nat}{v:Int}(h:Qp B u (qIt x n i v))(hi:InP x n i):Qp B (qIt u n i (B n i)) x:=by
 have hs:Sh u x:=h.1.trans qIs
 refine⟨qIs.trans hs,fun m j=>?_⟩
 have h2:=h.2 m j
 rw[qJs hi]at h2
 rw[qJs (hi.sh hs)]
 by_cases e:m=n/\j=i
 ·right;rw[if_pos e,e.1,e.2]
 ·rw[if_neg e]
  rw[if_neg e]at h2
  exact h2
theorem qJB{α:Type}{l l':List α}{i:Nat}{a:α}:(l++l').getD i a=if i<l.length then l.getD i a else l'.getD (i-l.length) a:=by
 rw[List.getD_eq_getElem?_getD,List.getD_eq_getElem?_getD,List.getD_eq_getElem?_getD]
 split
 ·rename_i h;rw[List.getElem?_append_left h]
 ·rename_i h;rw[List.getElem?_append_right (by omega)]
theorem Qp.app{n:Int×List Int}(h:Qp B u x):Qp B (u.1,u.2++[n]) (x.1,x.2++[n]):=⟨⟨h.1.1,by simp[h.1.2]⟩,fun m j=>by
 cases m with
 | zero=>exact h.2 0 j
 | succ m =>
  rw[qFw,qFw]
  show ((u.2++[n]).getD m _).2.getD j 0=((x.2++[n]).getD m _).2.getD j 0∨_
  rw[qJB,qJB,h.1.len]
  split
  ·have:=h.2 (m+1) j
   rw[qFw,qFw]at this
   rcases this with h1|h1
   ·exact .inl h1
   ·exact .inr h1
  ·exact .inl rfl⟩
theorem Qp.cut{n:Int×List Int}(h:Qp B u (x.1,x.2++[n])):Qp B (u.1,u.2.take x.2.length) x:=by
 have hl:=h.1.len
 have hl:u.2.length=x.2.length+1:=by rw[hl];simp
 refine⟨⟨h.1.1,?_⟩,fun m j=>?_⟩
 ·have:=congrArg (List.take x.2.length) h.1.2
  simpa [List.map_take]using this
 ·cases m with
  | zero=>exact h.2 0 j
  | succ m =>
   rw[qFw,qFw]
   show ((u.2.take x.2.length).getD m _).2.getD j 0=_∨_
   have h2:=h.2 (m+1) j
   rw[qFw,qFw]at h2
   have h2:(u.2.getD m (0,[])).2.getD j 0=((x.2++[n]).getD m (0,[])).2.getD j 0∨_:=h2
   by_cases hm:m<x.2.length
   ·have e:(u.2.take x.2.length).getD m (0,[])=u.2.getD m (0,[]):=by
     rw[List.getD_eq_getElem?_getD,List.getElem?_take,if_pos hm,<- List.getD_eq_getElem?_getD]
    rw[e]
    rw[qJB,if_pos hm]at h2
    rcases h2 with h2|h2
    ·exact .inl h2
    ·exact .inr h2
   ·left
    have e1:(u.2.take x.2.length).getD m (0,[])=(0,[]):=by
     rw[List.getD_eq_getElem?_getD,List.getElem?_take,if_neg hm];rfl
    have e2:x.2.getD m (0,[])=(0,[]):=by
     rw[List.getD_eq_getElem?_getD,List.getElem?_eq_none (by omega)];rfl
    rw[e1,e2]
end
def SzOk(d:Ds)(a:Gm):Prop:=∀(k:Nat) t f,a.2[k]?=some (t,f)->f.length=(qAm d t).length
section
variable{d:Ds}{b a x y:Gm}{l:List (Int×Int×Int)}
theorem Tra.shape(h:Tra x l y):∀(k:Nat) t f,x.2[k]?=some (t,f)->∃f',y.2[k]?=some (t,f')/\f'.length=f.length:=by
 induction h with
 | nil=>exact fun k t f h=>⟨f,h,rfl⟩
 | rd _ ih=>exact ih
 | wg _ _ ih=>exact ih
 | @wf g ns y l k i ty v f hk hi _ ih =>
  intro m t g' hm
  by_cases e:m=k
  ·subst e
   have hm:ns[m]?=some (t,g'):=hm
   rw[hk]at hm;cases hm
   obtain⟨f',h1,h2⟩:=ih m ty (f.set i v) (by show (ns.set m _)[m]?=_;rw[List.getElem?_set_self (List.getElem?_eq_some_iff.1 hk).1])
   exact⟨f',h1,by rw[h2,List.length_set]⟩
  ·exact ih m t g' (by show (ns.set k _)[m]?=_;rw[List.getElem?_set_ne (Ne.symm e)];exact hm)
 | @al g ns y l ty n _ ih =>
  intro m t g' hm
  have hm:ns[m]?=some (t,g'):=hm
  exact ih m t g' (by show (ns++[_])[m]?=_;rw[List.getElem?_append_left (List.getElem?_eq_some_iff.1 hm).1];exact hm)
theorem Tra.glen(h:Tra x l y):y.1.length=x.1.length:=by
 induction h with
 | nil=>rfl
 | rd _ ih=>exact ih
 | wg _ _ ih=>rw[ih,List.length_set]
 | wf _ _ _ ih=>exact ih
 | al _ ih=>exact ih
theorem Tra.inP(h:Tra x l y){n i:Nat}(k:InP x n i):InP y n i:=by
 rcases k with⟨rfl,k⟩|⟨k,t,f,rfl,h1,h2⟩
 ·exact .inl ⟨rfl,by rw[h.glen];exact k⟩
 ·obtain⟨f',e1,e2⟩:=h.shape k t f h1
  exact .inr ⟨k,t,f',rfl,e1,by omega⟩
theorem Tra.at_(h:Tra x l y):∀t∈l,t.1=1∨(t.1=2/\∃n i:Nat,t.2.1=n/\t.2.2=i/\InP y n i/\(x.2.length<n∨InP x n i))∨(t.1=3/\∃(n:Nat) (f:List Int),t.2.1=n+1/\y.2[n]?=some (t.2.2,f)):=by
 induction h with
 | nil=>intro t ht;cases ht
 | rd _ ih =>
  intro t ht
  rcases List.mem_cons.1 ht with rfl|ht
  ·exact .inl rfl
  ·exact ih t ht
 | @wg g ns y l i v hi h ih =>
  intro t ht
  rcases List.mem_cons.1 ht with rfl|ht
  ·exact .inr (.inl ⟨rfl,0,i,rfl,rfl,h.inP (.inl ⟨rfl,by show i<(g.set i v).length;rw[List.length_set];exact hi⟩),.inr (.inl ⟨rfl,hi⟩)⟩)
  ·rcases ih t ht with k|⟨k,n,j,e1,e2,h1,h2⟩|k
   ·exact .inl k
   ·refine .inr (.inl ⟨k,n,j,e1,e2,h1,h2.imp id fun h2=>?_⟩)
    rcases h2 with⟨e0,h3⟩|h3
    ·exact .inl ⟨e0,by have:j<(g.set i v).length:=h3;rw[List.length_set]at this;exact this⟩
    ·exact .inr h3
   ·exact .inr (.inr k)
 | @wf g ns y l k i ty v f hk hi h ih =>
  have hkl:=(List.getElem?_eq_some_iff.1 hk).1
  intro t ht
  rcases List.mem_cons.1 ht with rfl|ht
  ·refine .inr (.inl ⟨rfl,k+1,i,rfl,rfl,h.inP (.inr ⟨k,ty,f.set i v,rfl,?_,by rw[List.length_set];exact hi⟩),.inr (.inr ⟨k,ty,f,rfl,hk,hi⟩)⟩)
   show (ns.set k _)[k]?=_
   rw[List.getElem?_set_self hkl]
  ·rcases ih t ht with q|⟨q,n,j,e1,e2,h1,h2⟩|q
   ·exact .inl q
   ·refine .inr (.inl ⟨q,n,j,e1,e2,h1,h2.imp (fun h2=>?_) fun h2=>?_⟩)
    ·have:(ns.set k (ty,f.set i v)).length<n:=h2
     rw[List.length_set]at this;exact this
    ·rcases h2 with h2|⟨m,t',f',e,h3,h4⟩
     ·exact .inl h2
     ·by_cases hm:m=k
      ·subst hm
       have h3:(ns.set m (ty,f.set i v))[m]?=_:=h3
       rw[List.getElem?_set_self hkl]at h3
       cases h3
       exact .inr ⟨m,ty,f,e,hk,by rw[List.length_set]at h4;exact h4⟩
      ·have h3:(ns.set k (ty,f.set i v))[m]?=_:=h3
       rw[List.getElem?_set_ne (Ne.symm hm)]at h3
       exact .inr ⟨m,t',f',e,h3,h4⟩
   ·exact .inr (.inr q)
 | @al g ns y l ty n h ih =>
  intro t ht
  rcases List.mem_cons.1 ht with rfl|ht
  ·obtain⟨f',h1,-⟩:=h.shape ns.length ty (List.replicate n 0) (by show (ns++[_])[ns.length]?=_;rw[List.getElem?_concat_length])
   exact .inr (.inr ⟨rfl,ns.length,f',rfl,h1⟩)
  ·rcases ih t ht with q|⟨q,m,j,e1,e2,h1,h2⟩|q
   ·exact .inl q
   ·refine .inr (.inl ⟨q,m,j,e1,e2,h1,?_⟩)
    rcases h2 with h2|h2|⟨p,t',f',e,h3,h4⟩
    ·left
     have h2:(ns++[(ty,List.replicate n 0)]).length<m:=h2
     rw[List.length_append]at h2
     show ns.length<m
     omega
    ·exact .inr (.inl h2)
    ·have h3:(ns++[(ty,List.replicate n 0)])[p]?=_:=h3
     by_cases hp:p<ns.length
     ·rw[List.getElem?_append_left hp]at h3
      exact .inr (.inr ⟨p,t',f',e,h3,h4⟩)
     ·left
      show ns.length<m
      omega
   ·exact .inr (.inr q)
inductive Chn (f:Gm->En->Gm) (ok:Gm->En->Prop):Gm->List En->Gm->Prop where
 | nil (u:Gm):Chn f ok u [] u
 | cons {u x:Gm} {e:En} {l:List En} (h:ok u e) (k:Chn f ok (f u e) l x):Chn f ok u (e::l) x
theorem Chn.app{f:Gm->En->Gm}{ok:Gm->En->Prop}{u w z:Gm}{m n:List En}(h:Chn f ok u m w)(k:Chn f ok w n z):Chn f ok u (m++n) z:=by
 induction h with
 | nil=>exact k
 | cons h _ ih=>exact .cons h (ih k)
def plcP(u:Gm)(e:En):Prop:=∃n i:Nat,e.node=n/\e.field=i/\InP u n i
def redoK(u:Gm)(e:En):Prop:=(e.al=true/\(∃n:Nat,e.size=n/\n<=12)/\u.2.length<4096)∨(e.al=false/\plcP u e)
def undoK(u:Gm)(e:En):Prop:=(e.al=true/\∃k:Nat,e.node=k+1/\k<=u.2.length)∨(e.al=false/\plcP u e)
theorem redo_run(hs:SzOk d a)(hL:∀t,(qAm d t).length<=12)(hn:a.2.length<=4096)(h:Tra x l a):∀u,Qp (qGI a) u x->Chn qGH redoK u (qBF d b a l) a:=by
 induction h with
 | nil=>exact fun u hu=>hu.eq ▸ .nil _
 | rd _ ih=>exact fun u hu=>ih hs hn u hu
 | @wg g ns y l i v hi _ ih =>
  intro u hu
  exact .cons (.inr ⟨rfl,0,i,rfl,rfl,.inl ⟨rfl,by rw[hu.1.1];exact hi⟩⟩) (ih hs hn (qIt u 0 i (qGI y 0 i)) (hu.fwd (n:=0) (v:=v) (.inl ⟨rfl,hi⟩)))
 | @wf g ns y l k i ty v f hk hi _ ih =>
  intro u hu
  have hin:InP (g,ns) (k+1) i:=.inr ⟨k,ty,f,rfl,hk,hi⟩
  have h1:=hu.fwd (n:=k+1) (i:=i) (v:=v) hin
  rw[set_n (x:=(g,ns)) hk]at h1
  have:=ih hs hn _ h1
  refine .cons (.inr ⟨rfl,k+1,i,rfl,rfl,hin.sh hu.1⟩) ?_
  show Chn qGH redoK (qIt u ((k:Int)+1).toNat ((i:Int)).toNat (qGI y ((k:Int)+1).toNat ((i:Int)).toNat)) (qBF d b y l) y
  rw[show ((k:Int)+1).toNat=k+1 by omega,show ((i:Int)).toNat=i by omega]
  exact this
 | @al g ns y l ty n ht ih =>
  intro u hu
  obtain⟨f',h1,h2⟩:=ht.shape ns.length ty (List.replicate n 0) (by show (ns++[_])[ns.length]?=_;rw[List.getElem?_concat_length])
  have h3:=hs _ _ _ h1
  rw[h2,List.length_replicate]at h3
  have:=ih hs hn _ (hu.app (n:=(ty,List.replicate n 0)))
  have hl:=(List.getElem?_eq_some_iff.1 h1).1
  have hul:u.2.length=ns.length:=hu.1.len
  refine .cons (.inl ⟨rfl,⟨_,rfl,hL ty⟩,by omega⟩) ?_
  show Chn qGH redoK (u.1,u.2++[(ty,List.replicate ((qAm d ty).length:Int).toNat 0)]) (qBF d b y l) y
  rw[Int.toNat_natCast,<- h3];exact this
theorem redo_all(hs:SzOk d a)(hL:∀t,(qAm d t).length<=12)(hn:a.2.length<=4096)(h:Tra b l a):Chn qGH redoK b (qBF d b a l) a:=redo_run hs hL hn h b ⟨Sh.refl b,fun _ _=>.inl rfl⟩
theorem undo_run(h:Tra x l a):∀u,Qp (qGI b) u a->∃w,Chn qHY undoK u (qBF d b a l).reverse w/\Qp (qGI b) w x:=by
 induction h with
 | nil=>exact fun u hu=>⟨u,.nil _,hu⟩
 | rd _ ih=>exact fun u hu=>ih u hu
 | @wg g ns y l i v hi _ ih =>
  intro u hu
  obtain⟨w,h0,h1⟩:=ih u hu
  unfold qBF at h0 ⊢
  rw[List.flatMap_cons,List.reverse_append]
  have hw:Sh w (g,ns):=h1.1.trans (qIs (x:=(g,ns)) (n:=0) (i:=i) (v:=v))
  exact⟨_,h0.app (.cons (.inr ⟨rfl,0,i,rfl,rfl,.inl ⟨rfl,by rw[hw.1];exact hi⟩⟩) (.nil _)),Qp.bwd (x:=(g,ns)) (n:=0) (i:=i) (v:=v) h1 (.inl ⟨rfl,hi⟩)⟩
 | @wf g ns y l k i ty v f hk hi _ ih =>
  intro u hu
  have hin:InP (g,ns) (k+1) i:=.inr ⟨k,ty,f,rfl,hk,hi⟩
  obtain⟨w,h0,h1⟩:=ih u hu
  unfold qBF at h0 ⊢
  rw[List.flatMap_cons,List.reverse_append]
  rw[<- set_n (x:=(g,ns)) hk]at h1
  have h2:=h1.bwd hin
  refine⟨_,h0.app (.cons (.inr ⟨rfl,k+1,i,rfl,rfl,hin.sh (h1.1.trans qIs)⟩) (.nil _)),?_⟩
  show Qp (qGI b) (qIt _ ((k:Int)+1).toNat ((i:Int)).toNat (qGI b ((k:Int)+1).toNat ((i:Int)).toNat)) (g,ns)
  rw[show ((k:Int)+1).toNat=k+1 by omega,show ((i:Int)).toNat=i by omega]
  exact h2
 | @al g ns y l ty n ht ih =>
  intro u hu
  obtain⟨w,h0,h1⟩:=ih u hu
  unfold qBF at h0 ⊢
  rw[List.flatMap_cons,List.reverse_append]
  have h2:=Qp.cut (x:=(g,ns)) h1
  have hwl:=h1.1.len
  rw[List.length_append]at hwl
  refine⟨_,h0.app (.cons (.inl ⟨rfl,ns.length,rfl,by omega⟩) (.nil _)),?_⟩
  show Qp (qGI b) (_,List.take ((ns.length:Int)+1-1).toNat _) (g,ns)
  rw[show ((ns.length:Int)+1-1).toNat=ns.length by omega]
  exact h2
theorem undo_all(h:Tra b l a):Chn qHY undoK a (qBF d b a l).reverse b:=by
 obtain⟨w,h1,h2⟩:=undo_run (d:=d) (b:=b) h a ⟨Sh.refl a,fun _ _=>.inl rfl⟩
 rw[h2.eq]at h1;exact h1
theorem ents_len(h:Tra x l y)(b a:Gm):(qBF d b a l).length=(l.filter fun t=>decide (t.1≠1)).length:=by
 have key:∀t∈l,(qIe d b a t).length=if t.1≠1 then 1 else 0:=fun t ht=>by
  rcases h.at_ t ht with k|⟨k,-⟩|⟨k,-⟩ <;> unfold qIe <;> rw[k] <;> rfl
 clear h
 unfold qBF
 induction l with
 | nil=>rfl
 | cons t l ih =>
  rw[List.flatMap_cons,List.length_append,ih fun t ht=>key t (List.mem_cons_of_mem _ ht),key t List.mem_cons_self,List.filter_cons]
  by_cases hk:t.1=1
  ·simp[hk]
  ·simp[hk];omega
end
end Go.Proofs
namespace Go.Proofs
open Go Go.Sx
mutual
def eEr:E->E | .mk o n s _ k=>.mk o n s qAv (qEv k)
def qEv:List E->List E | []=>[] | x::xs=>eEr x::qEv xs
end
mutual
def sEr:S->S | .mk o s _ es _ ls _ xs=>.mk o s qAv (qEv es) qAv (qEZ ls) qAv (qEZ xs)
def qEZ:List S->List S | []=>[] | x::xs=>sEr x::qEZ xs
end
def tEr(t:Ty):Ty:=⟨t.name,qAv,t.fields⟩
def pEr(p:Pr):Pr:=⟨p.name,qAv,p.params,p.result,qAv,p.locals,qAv,qEZ p.body⟩
def dEr(d:Ds):Ds:=⟨d.name,qAv,d.types.map tEr,qAv,d.globals,qAv,d.procs.map pEr,qAv,[],qAv,[],qAv,[],qAv,[]⟩
theorem qCZ:∀l:List E,qEv l=l.map eEr
 | []=>by unfold qEv;rfl
 | x::xs=>by unfold qEv;rw[qCZ xs];rfl
theorem qCT:∀l:List S,qEZ l=l.map sEr
 | []=>by unfold qEZ;rfl
 | x::xs=>by unfold qEZ;rw[qCT xs];rfl
theorem eErs_len(l:List E):(qEv l).length=l.length:=by rw[qCZ,List.length_map]
theorem sErs_len(l:List S):(qEZ l).length=l.length:=by rw[qCT,List.length_map]
mutual
theorem okE_er:∀(k:Int) (e:E),okE k (eEr e)=okE k e
 | k,.mk o n s _ l=>by unfold eEr okE;rw[eErs_len,okEs_er]
theorem okEs_er:∀(k:Int) (l:List E),okEs k (qEv l)=okEs k l
 | _,[]=>by unfold qEv;rfl
 | k,x::xs=>by unfold qEv okEs;rw[okE_er,okEs_er]
end
mutual
theorem szE_er:∀e:E,szE (eEr e)=szE e
 | .mk o n s _ l=>by unfold eEr szE;rw[szEs_er]
theorem szEs_er:∀l:List E,szEs (qEv l)=szEs l
 | []=>by unfold qEv;rfl
 | x::xs=>by unfold qEv szEs;rw[szE_er,szEs_er]
end
theorem validE_er(e:E):qAJ (eEr e)=qAJ e:=by unfold qAJ;rw[okE_er,szE_er]
theorem fop_er:∀l:List E,fop (qEv l)=fop l
 | []=>by unfold qEv;rfl
 | .mk o n s _ l::xs=>by unfold qEv eEr fop;rfl
theorem shapeR_er(op:Int)(s:ByteArray)(es:List E)(nl nx:Int):qBO op s (qEv es) nl nx=qBO op s es nl nx:=by
 unfold qBO qFj
 have:(qEv es).all qAJ=es.all qAJ:=by
  rw[qCZ,List.all_map]
  exact congrArg (fun f=>es.all f) (funext fun e=>validE_er e)
 rw[eErs_len,fop_er,this]
mutual
theorem okS_er:∀(k:Int) (e:S),okS k (sEr e)=okS k e
 | k,.mk o s _ es _ ls _ xs=>by unfold sEr okS;rw[sErs_len,sErs_len,shapeR_er,qJl,qJl]
theorem qJl:∀(k:Int) (l:List S),qFN k (qEZ l)=qFN k l
 | _,[]=>by unfold qEZ;rfl
 | k,x::xs=>by unfold qEZ qFN;rw[okS_er,qJl]
end
mutual
theorem szS_er:∀e:S,szS (sEr e)=szS e
 | .mk o s _ es _ ls _ xs=>by unfold sEr szS;rw[qIV,qIV]
theorem qIV:∀l:List S,qDO (qEZ l)=qDO l
 | []=>by unfold qEZ;rfl
 | x::xs=>by unfold qEZ qDO;rw[szS_er,qIV]
end
theorem qFI{α β:Type}{f:α->β}{p:β->Bool}{q:α->Bool}(l:List α)(h:∀x,p (f x)=q x):(l.map f).all p=l.all q:=by
 rw[List.all_map];exact congrArg (fun g=>l.all g) (funext h)
theorem qJP{α β:Type}{f:α->β}{p:β->Bool}{q:α->Bool}(l:List α)(h:∀x,p (f x)=q x):(l.map f).any p=l.any q:=by
 rw[List.any_map];exact congrArg (fun g=>l.any g) (funext h)
theorem idx_map{α β:Type}{f:α->β}{p:β->Bool}{q:α->Bool}(l:List α)(h:∀x,p (f x)=q x):idxI p (l.map f)=idxI q l:=by
 unfold idxI
 have e:p ∘ f=q:=funext h
 rw[List.findIdx?_map,e]
theorem find_map'{α β:Type}{f:α->β}{p:β->Bool}{q:α->Bool}(l:List α)(h:∀x,p (f x)=q x):(l.map f).find? p=(l.find? q).map f:=by
 rw[List.find?_map]
 have e:p ∘ f=q:=funext h
 rw[e]
theorem qEe{α β γ:Type}{f:α->β}{p:Nat->β->Option γ}{q:Nat->α->Option γ}:∀(l:List α) (i:Nat),(∀j x,p j (f x)=q j x)->qAi p i (l.map f)=qAi q i l
 | [],_,_=>rfl
 | x::l,i,h=>by
  unfold List.map qAi
  rw[h,qEe l (i+1) h]
theorem tyB_er(t:Ty):tyB (tEr t)=tyB t:=rfl
theorem prB_er(p:Pr):prB (pEr p)=prB p:=by
 unfold prB qEK
 show (qAQ p.name&&qDL p.params 6&&qDL p.locals 12&&(decide (p.result=qAq [])||typB p.result)&&decide (qFN 1 (qEZ p.body)=true/\qDO (qEZ p.body)<=200))=_
 rw[qJl,qIV]
section
variable(d:Ds)
theorem valid_er(h:qAH d=true):qAH (dEr d)=true:=by
 unfold qAH at h ⊢
 simp only[Bool.and_eq_true,decide_eq_true_eq]at h ⊢
 refine⟨⟨⟨⟨⟨⟨⟨h.1.1.1.1.1.1.1,?_⟩,h.1.1.1.1.1.2⟩,?_⟩,rfl⟩,?_⟩,?_⟩,rfl⟩
 ·have:=h.1.1.1.1.1.1.2
  show ((d.types.map tEr).length:Int)<=12
  rw[List.length_map];exact this
 ·have:=h.1.1.1.1.2
  show ((d.procs.map pEr).length:Int)<=40
  rw[List.length_map];exact this
 ·show (d.types.map tEr).all tyB=true
  rw[qFI _ tyB_er];exact h.1.1.2
 ·show (d.procs.map pEr).all prB=true
  rw[qFI _ prB_er];exact h.1.2
theorem valid_re(h:qAH (dEr d)=true)(h1:d.measures=[])(h2:d.invs=[])(h3:d.pots=[])(h4:d.bounds=[]):qAH d=true:=by
 unfold qAH at h ⊢
 simp only[Bool.and_eq_true,decide_eq_true_eq]at h ⊢
 refine⟨⟨⟨⟨⟨⟨⟨h.1.1.1.1.1.1.1,?_⟩,h.1.1.1.1.1.2⟩,?_⟩,?_⟩,?_⟩,?_⟩,?_⟩
 ·have:=h.1.1.1.1.1.1.2
  rw[show ((dEr d).types.length:Int)=(d.types.length:Int) by show ((d.types.map tEr).length:Int)=_;rw[List.length_map]]at this
  exact this
 ·have:=h.1.1.1.1.2
  rw[show ((dEr d).procs.length:Int)=(d.procs.length:Int) by show ((d.procs.map pEr).length:Int)=_;rw[List.length_map]]at this
  exact this
 ·unfold lensB;rw[h1,h2,h3,h4];rfl
 ·have:=h.1.1.2
  rw[show (dEr d).types=d.types.map tEr from rfl,qFI _ tyB_er]at this;exact this
 ·have:=h.1.2
  rw[show (dEr d).procs=d.procs.map pEr from rfl,qFI _ prB_er]at this;exact this
 ·unfold formB;rw[h1,h2,h3,h4];rfl
theorem qHC(s:ByteArray):qBg (dEr d) s=qBg d s:=qJP (f:=tEr) _ fun _=>rfl
theorem qJv(s:ByteArray):qBn (dEr d) s=qBn d s:=by unfold qBn;rw[qHC]
theorem fits_er(a b:ByteArray):qDJ (dEr d) a b=qDJ d a b:=by unfold qDJ;rw[qHC]
theorem tyOf_er(s:ByteArray):qIm (dEr d) s=(qIm d s).map tEr:=find_map' (f:=tEr) _ fun _=>rfl
theorem prOf_er(s:ByteArray):qHp (dEr d) s=(qHp d s).map pEr:=find_map' (f:=pEr) _ fun _=>rfl
theorem fieldT_er(t n:ByteArray):qBV (dEr d) t n=qBV d t n:=by
 unfold qBV
 rw[tyOf_er]
 cases qIm d t <;> rfl
theorem fitAll_er:∀(l:List ByteArray) (fs:List Fld),qCt (dEr d) l fs=qCt d l fs
 | a::l,f::fs=>by unfold qCt;rw[fits_er,fitAll_er]
 | [],_=>by simp[qCt]
 | _::_,[]=>by simp[qCt]
theorem callT_er(n:ByteArray)(l:List ByteArray):qGi (dEr d) n l=qGi d n l:=by
 unfold qGi
 rw[prOf_er]
 cases qHp d n with
 | none=>rfl
 | some p =>
  show (if l.length≠p.params.length then _ else if qCt (dEr d) l p.params=true then _ else _)=_
  rw[fitAll_er];rfl
theorem nodeT_er{sc:Sc}(hb:sc.body=true)(op:Int)(s:ByteArray)(l:List ByteArray):qGc (dEr d) sc op s l=qGc d sc op s l:=by
 unfold qGc callE
 rw[if_pos hb,if_pos hb]
 simp only[fieldT_er,qHC,callT_er,fits_er]
mutual
theorem exprT_er{sc:Sc}(hb:sc.body=true):∀e:E,qAl (dEr d) sc (eEr e)=qAl d sc e
 | .mk o n s _ k=>by unfold eEr qAl;rw[qFn hb,nodeT_er d hb]
theorem qFn{sc:Sc}(hb:sc.body=true):∀(acc:List ByteArray) (l:List E),partsT (dEr d) sc acc (qEv l)=partsT d sc acc l
 | _,[]=>by unfold qEv partsT;rfl
 | acc,x::xs=>by unfold qEv partsT;rw[exprT_er hb,qFn hb]
end
theorem stmtT_er{sc:Sc}(hb:sc.body=true)(r:ByteArray)(op:Int)(s:ByteArray)(es:List E):qFh (dEr d) sc r op s (qEv es)=qFh d sc r op s es:=by
 unfold qFh
 rw[qFn d hb]
 simp only[fits_er,fieldT_er]
 congr 1
 match es with
 | []=>unfold qEv;rfl
 | .mk o n s _ k::es =>
  unfold qEv eEr
  simp only[E.k,E.s,qFn d hb,callT_er]
  rfl
mutual
theorem stT_er{sc:Sc}(hb:sc.body=true)(r:ByteArray):∀(n:Int) (e:S),stT (dEr d) sc r n (sEr e)=stT d sc r n e
 | n,.mk o s _ es _ ls _ xs=>by
  unfold sEr stT
  rw[stmtT_er d hb,qIX hb r (n+1) ls,qIX hb r _ xs]
theorem qIX{sc:Sc}(hb:sc.body=true)(r:ByteArray):∀(n:Int) (l:List S),qBN (dEr d) sc r n (qEZ l)=qBN d sc r n l
 | _,[]=>by unfold qEZ qBN;rfl
 | n,x::xs=>by unfold qEZ qBN;rw[stT_er hb,qIX hb]
end
theorem oneT_er(l:List Fld)(i:Nat)(f:Fld):qFM (dEr d) l i f=qFM d l i f:=by unfold qFM;rw[qJv]
theorem declT_er(l:List Fld):qDf (dEr d) l=qDf d l:=by
 unfold qDf
 simp only[oneT_er]
theorem types_er:qGn (dEr d)=qGn d:=by
 unfold qGn
 congr 1
 ·unfold types1
  refine qEe (f:=tEr) d.types 0 fun j x=>?_
  rw[show (dEr d).types=d.types.map tEr from rfl,<- List.map_take,qJP (f:=tEr) (q:=fun g=>decide (g.name=x.name)) _ fun _=>rfl]
  rfl
 congr 1
 ·unfold types2
  refine qEe (f:=tEr) d.types 0 fun j x=>?_
  show (if qDf (dEr d) x.fields≠0 then some (x.name,(-1:Int),qDf (dEr d) x.fields) else none)=_
  rw[declT_er]
 ·unfold types3
  simp only[oneT_er]
  rfl
theorem heads_er:qEF (dEr d)=qEF d:=by
 unfold qEF
 refine qEe (f:=pEr) d.procs 0 fun j x=>?_
 rw[show (dEr d).procs=d.procs.map pEr from rfl,<- List.map_take,qJP (f:=pEr) (q:=fun g=>decide (g.name=x.name)) _ fun _=>rfl,declT_er,qJv]
 rfl
theorem bodies_er:qCs (dEr d)=qCs d:=by
 unfold qCs
 refine qEe (f:=pEr) d.procs 0 fun j x=>?_
 show (if (qBN (dEr d) (qAh d x) x.result 0 (qEZ x.body)).2≠0 then some (x.name,(qBN (dEr d) (qAh d x) x.result 0 (qEZ x.body)).1,(qBN (dEr d) (qAh d x) x.result 0 (qEZ x.body)).2) else none)=_
 rw[qIX d rfl]
theorem qCW{α:Type}{a b:Option α}:a.or b=none↔a=none/\b=none:=by cases a <;> simp
theorem chk_er(h:qHQ d=none):qHQ (dEr d)=none:=by
 unfold qHQ at h ⊢
 rw[qCW,qCW,qCW,qCW]at h
 rw[types_er,heads_er,bodies_er,h.1,h.2.1,h.2.2.2.1]
 rfl
theorem chk_re(h:qHQ (dEr d)=none)(h1:d.measures=[])(h2:d.invs=[])(h3:d.pots=[])(h4:d.bounds=[]):qHQ d=none:=by
 unfold qHQ at h ⊢
 rw[qCW,qCW,qCW,qCW,types_er,heads_er,bodies_er]at h
 rw[h.1,h.2.1,h.2.2.2.1]
 have e1:qER d=none:=by unfold qER form1 form2 form3 form4;rw[h1,h2,h3,h4];rfl
 have e2:qHJ d=none:=by unfold qHJ exp1 exp2 exp3 exp4;rw[h1,h2,h3,h4];rfl
 rw[e1,e2];rfl
theorem idxT_er(s:ByteArray):qDp (dEr d) s=qDp d s:=idx_map (f:=tEr) _ fun _=>rfl
theorem qDq(t:Int):qAm (dEr d) t=qAm d t:=by
 unfold qAm
 rw[show (dEr d).types=d.types.map tEr from rfl,List.getElem?_map,Option.map_map];rfl
theorem right_er(m:Mm)(t:ByteArray)(v:Int):qAs (dEr d) m t v=qAs d m t v:=by unfold qAs;rw[idxT_er]
theorem values_er(m:Mm)(l:List Fld)(vs:List Int):qAf (dEr d) m l vs=qAf d m l vs:=by unfold qAf;simp only[right_er]
theorem typed_er(l:List Fld):qBL (dEr d) l=qBL d l:=by unfold qBL;simp only[qJv]
theorem has_er:(qBL (dEr d) (dEr d).globals&&allI (fun i t=>decide (qDp (dEr d) t.name=(i:Int))&&qBL (dEr d) t.fields) (dEr d).types)=(qBL d d.globals&&allI (fun i t=>decide (qDp d t.name=(i:Int))&&qBL d t.fields) d.types):=by
 simp only[idxT_er,typed_er]
 congr 1
 unfold allI
 rw[show (dEr d).types=d.types.map tEr from rfl,List.zipIdx_map]
 exact qFI _ fun _=>rfl
theorem mem_er{d':Ds}(he:dEr d=dEr d')(hv:qAH d'=true){m:Mm}(h:qBK d m=true):qBK d' m=true:=by
 have key:∀x:Ds,qBK x m=(qAH x&&(qBL (dEr x) (dEr x).globals&&allI (fun i t=>decide (qDp (dEr x) t.name=(i:Int))&&qBL (dEr x) t.fields) (dEr x).types)&&(decide (m.nodes.length<=4096)&&m.nodes.all (fun n=>decide (0<=n.ty/\n.ty<((dEr x).types.length:Int)))&&qAf (dEr x) m (dEr x).globals m.globals&&m.nodes.all fun n=>qAf (dEr x) m (qAm (dEr x) n.ty) n.f)):=fun x=>by
  rw[has_er]
  simp only[values_er,qDq]
  rw[show (dEr x).types=x.types.map tEr from rfl,List.length_map]
  unfold qBK hasT
  simp only[Bool.and_assoc]
  rfl
 rw[key,<- he]
 rw[key]at h
 simp only[Bool.and_eq_true]at h ⊢
 exact⟨⟨hv,h.1.2⟩,h.2⟩
end
structure qEY (d d':Ds):Prop where
 er:dEr d=dEr d'
 h1:d'.measures=[]
 h2:d'.invs=[]
 h3:d'.pots=[]
 h4:d'.bounds=[]
theorem qAo.same{d d':Ds}{m:Mm}(G:qAo d m)(h:qEY d d'):qAo d' m:=by
 have hv:=valid_re d' (h.er ▸ valid_er d G.valid) h.h1 h.h2 h.h3 h.h4
 exact⟨hv,chk_re d' (h.er ▸ chk_er d G.chk) h.h1 h.h2 h.h3 h.h4,mem_er d h.er hv G.mem⟩
section
variable(d:Ds)
theorem qJk(s:ByteArray):qDT (dEr d) s=qDT d s:=idx_map (f:=pEr) _ fun _=>rfl
theorem cllE_er(m:Mm)(nm:ByteArray)(l:List Int):qCn (dEr d) m nm l=qCn d m nm l:=by
 unfold qCn
 rw[qJk,show (dEr d).procs=d.procs.map pEr from rfl,List.getElem?_map]
 cases d.procs[(qDT d nm).toNat]? with
 | none=>rfl
 | some p =>
  show (if qDT d nm<0 then _ else if l.length=p.params.length then (if qAf (dEr d) m p.params l=true then _ else _) else _)=_
  rw[values_er]
theorem fldX_er(a:Int)(s:ByteArray)(st:St):fldX (dEr d) a s st=fldX d a s st:=by unfold fldX;simp only[qDq]
theorem newX_er(s:ByteArray)(st:St):newX (dEr d) s st=newX d s st:=by unfold newX;simp only[qDq,idxT_er]
theorem putX_er(a v:Int)(s:ByteArray)(st:St):putX (dEr d) a v s st=putX d a v s st:=by unfold putX;simp only[qDq]
theorem intB_er{sc:Sc}(hb:sc.body=true):∀l:List E,intB (dEr d) sc (qEv l)=intB d sc l
 | []=>by unfold qEv;rfl
 | x::xs=>by
  unfold qEv
  show decide ((qAl (dEr d) sc (eEr x)).1=qBb)=decide ((qAl d sc x).1=qBb)
  rw[exprT_er d hb]
theorem combX_er(C:Cf)(p:Pr)(vals:List Int)(b:Bool)(op n:Int)(s:ByteArray)(ks:List (St->Rx Int))(st:St):qDg (dEr d) C (pEr p) vals b op n s ks st=qDg d C p vals b op n s ks st:=by
 unfold qDg
 simp only[fldX_er,newX_er,qJk]
 rfl
mutual
theorem evX_er(C:Cf)(p:Pr)(vals:List Int):∀e:E,evX (dEr d) C (pEr p) vals (eEr e)=evX d C p vals e
 | .mk o n s _ k=>by
  unfold eEr evX
  funext st
  rw[combX_er,evXs_er C p vals k]
  show qDg d C p vals (intB (dEr d) (qAh d p) (qEv k)) o n s _ st=_
  rw[intB_er d rfl]
theorem evXs_er(C:Cf)(p:Pr)(vals:List Int):∀l:List E,evXs (dEr d) C (pEr p) vals (qEv l)=evXs d C p vals l
 | []=>by unfold qEv evXs;rfl
 | x::xs=>by unfold qEv evXs;rw[evX_er C p vals x,evXs_er C p vals xs]
end
theorem evX_er'(C:Cf)(p:Pr)(vals:List Int)(e:E)(st:St):evX (dEr d) C (pEr p) vals (eEr e) st=evX d C p vals e st:=congrFun (evX_er d C p vals e) st
theorem getD_er(l:List E)(i:Nat):(qEv l).getD i noE=eEr (l.getD i noE):=by
 rw[qCZ,List.getD_eq_getElem?_getD,List.getD_eq_getElem?_getD,List.getElem?_map]
 cases l[i]? with
 | none=>unfold noE;simp[eEr,qEv]
 | some x=>rfl
section
variable{Sn Sn':Sf}(hS:∀c p l vals st,Sn' c (pEr p) (qEZ l) vals st=Sn c p l vals st)
include hS
theorem callX_er(c:Nat):qDG (dEr d) Sn' c=qDG d Sn c:=by
 funext i l st
 unfold qDG
 rw[show (dEr d).procs=d.procs.map pEr from rfl,List.getElem?_map]
 cases d.procs[i.toNat]? with
 | none=>rfl
 | some p =>
  show (if 200<=c then _ else (Sn' (c+1) (pEr p) (qEZ p.body) _ st).bind _)=_
  rw[hS];rfl
theorem evS_er(c:Nat)(p:Pr)(vals:List Int)(e:E)(st:St):evS (dEr d) Sn' c (pEr p) vals (eEr e) st=evS d Sn c p vals e st:=by
 unfold evS
 rw[callX_er d hS,evX_er']
theorem whX_er(F c:Nat)(p:Pr)(e:E)(b:List S):∀(n:Nat) (vals:List Int) (st:St),whX (dEr d) F Sn' c (pEr p) (eEr e) (qEZ b) n vals st=whX d F Sn c p e b n vals st
 | 0,_,_=>rfl
 | n+1,vals,st=>by
  unfold whX
  simp only[evS_er d hS,hS,whX_er F c p e b n]
theorem bodyX_er(F c:Nat)(p:Pr)(n:Nat)(s:S)(vals:List Int)(st:St):bodyX (dEr d) F Sn' c (pEr p) n (sEr s) vals st=bodyX d F Sn c p n s vals st:=by
 match s with
 | .mk o s _ es _ ls _ xs =>
  unfold sEr bodyX
  simp only[S.op,S.s,S.es,S.ls,S.xs,getD_er,evS_er d hS,hS,whX_er d hS,putX_er]
  cases es <;> simp only[qEv,evS_er d hS] <;> rfl
end
theorem stX_er{Sn Sn':Sf}(hS:∀c p l vals st,Sn' c (pEr p) (qEZ l) vals st=Sn c p l vals st)(F c:Nat)(p:Pr)(n:Nat)(s:S)(vals:List Int)(st:St):stX (dEr d) F Sn' c (pEr p) n (sEr s) vals st=stX d F Sn c p n s vals st:=by
 unfold stX
 simp only[bodyX_er d hS]
theorem listX_er{f f':S->List Int->St->Rx Rt}(h:∀s vals st,f' (sEr s) vals st=f s vals st):∀(l:List S) (vals:List Int) (st:St),qFx f' (qEZ l) vals st=qFx f l vals st
 | [],_,_=>by unfold qEZ qFx;rfl
 | s::l,vals,st=>by
  unfold qEZ qFx
  rw[h]
  simp only[listX_er h l]
theorem stsX_er(F:Nat):∀(n c:Nat) (p:Pr) (l:List S) (vals:List Int) (st:St),qFg (dEr d) F n c (pEr p) (qEZ l) vals st=qFg d F n c p l vals st
 | 0,_,_,_,_,_=>rfl
 | n+1,c,p,l,vals,st=>listX_er (fun s vals st=>stX_er d (stsX_er F n) F c p (n+1) s vals st) l vals st
theorem playX_er(F:Nat)(i:Int)(l:List Int)(st:St):qCq (dEr d) F i l st=qCq d F i l st:=by
 unfold qCq
 rw[callX_er d (stsX_er d F (F+1))]
end
section
variable{d d':Ds}(h:qEY d d')
include h
theorem qEY.play(F:Nat)(i:Int)(l:List Int)(st:St):qCq d' F i l st=qCq d F i l st:=by rw[<- playX_er d,h.er,playX_er]
theorem qEY.cll(m:Mm)(nm:ByteArray)(l:List Int):qCn d' m nm l=qCn d m nm l:=by rw[<- cllE_er d,h.er,cllE_er]
theorem qEY.idx(s:ByteArray):qDT d' s=qDT d s:=by rw[<- qJk d,h.er,qJk]
theorem qEY.fields(t:Int):qAm d' t=qAm d t:=by rw[<- qDq d,h.er,qDq]
end
end Go.Proofs
