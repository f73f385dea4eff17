/- Part 17 of a proof of a law of this seat: no statement of the seat is proved here. -/
import Derived.Test.YtginfholjbbgeaaGreatDoorPart16
import Derived.ProofKit
import Derived.Test.YtginfholjbbgeaaGreatDoorRows
import Derived.Lib.LaidIn
import Derived.Lib.LaidTab
import Derived.Handed
import Derived.Test.YtginfholjbbgeaaGreatDoorPart15
import Derived.Test.YtginfholjbbgeaaGreatDoorPart09
set_option linter.unusedVariables false
set_option linter.unusedSimpArgs false
namespace Go.Proofs
open Go Go.Sx
def qBa(w:World):Mem:=fun b=>w.heap[b]?
theorem heapM_le(w:World):(qBa w).le w:=fun _ _ h=>h
theorem qFq{α β:Type}{f:α->Option β}:∀{l:List α} {r:List β},l.mapM f=some r->r.length=l.length/\∀(i:Nat) (a:α),l[i]?=some a->∃b,r[i]?=some b/\f a=some b
 | [],r,h=>by simp at h;subst h;simp
 | x::l,r,h=>by
  simp only[List.mapM_cons,Option.bind_eq_bind,Option.bind_eq_some_iff,Option.pure_def,Option.some.injEq]at h
  obtain⟨b,hb,r',hr',rfl⟩:=h
  obtain⟨h1,h2⟩:=qFq hr'
  refine⟨by simp[h1],fun i a ha=>?_⟩
  cases i with
  | zero=>simp at ha;subst ha;exact⟨b,by simp,hb⟩
  | succ i=>simp at ha;simpa using h2 i a ha
theorem cells_row{w:World}{a:Addr}{n:Nat}{cs:List Value}(h:w.cells? 0 a n=some cs)(hn:0<n):(qBa w).row a n=some cs:=by
 unfold World.cells? at h
 rw[if_pos (Nat.zero_le _)]at h
 obtain⟨h1,h2⟩:=qFq h
 have hat:∀i,i<n->∃v,cs[i]?=some v/\w.cell? (a.add i)=some v:=fun i hi=>h2 i i (by simp[hi])
 obtain⟨v0,-,hc0⟩:=hat 0 hn
 have e0:a.add 0=a:=by unfold Addr.add;rw[if_pos rfl]
 rw[e0]at hc0
 unfold World.cell? at hc0
 split at hc0
 ·rename_i c t fr hb
  split at hc0
  ·cases hc0
  ·rename_i hsp
   have hsp':a.spot.isNone=true:=by cases hs:a.spot with
    | none=>rfl
    | some x=>rw[hs]at hsp;exact absurd rfl hsp
   have hsp2:a.spot=none:=by cases hs:a.spot with
    | none=>rfl
    | some x=>rw[hs]at hsp';cases hsp'
   have hci:∀i,i<n->∃v,cs[i]?=some v/\c[a.off+i]?=some v:=fun i hi=>by
    obtain⟨v,hv,hc⟩:=hat i hi
    refine⟨v,hv,?_⟩
    have e:a.add i=⟨a.block,a.off+i,none⟩:=by
     unfold Addr.add
     by_cases h0:i=0
     ·subst h0;rw[if_pos rfl]
      cases a with
      | mk b o s=>simp only at hsp2;subst hsp2;rfl
     ·rw[if_neg h0]
    rw[e]at hc
    simpa [World.cell?,hb]using hc
   have hlen:a.off+n<=c.size:=by
    obtain⟨v,_,hc⟩:=hci (n-1) (by omega)
    have:=(Array.getElem?_eq_some_iff.1 hc).1
    omega
   have hcs:cs.length=n:=by rw[h1];simp
   unfold Mem.row qBa
   simp only[hb]
   rw[if_pos ⟨hsp',hlen⟩]
   congr 1
   apply List.ext_getElem?
   intro i
   by_cases hi:i<n
   ·obtain⟨v,hv,hc⟩:=hci i hi
    rw[hv,List.getElem?_take,if_pos hi,List.getElem?_drop,Array.getElem?_toList,hc]
   ·rw[List.getElem?_eq_none (by simp;omega),List.getElem?_eq_none (by omega)]
 ·cases hc0
section
variable{H:Type}{enc:TypeId×Value->H}{w:World}
noncomputable abbrev TR(enc:TypeId×Value->H)(w:World)(n:Nat)(t:TypeId)(cs:List Value):=DataW.trod enc Tryz.prog w 0 (fun _=>true) true n t cs
theorem rd_str{n:Nat}{t:TypeId}{cs:List Value}{x:DataW H×List MemPlace}(ht:Tryz.prog.underlying t=some .string)(h:TR enc w n t cs=some x):∃s,cs=[.string s]:=by
 cases n with
 | zero=>cases h
 | succ n =>
  unfold TR DataW.trod at h
  rw[ht]at h
  split at h <;> first | (rename_i e;cases e;done) | skip
  all_goals first|exact⟨_,rfl⟩ | (simp_all;done)
theorem rd_int{n:Nat}{t:TypeId}{cs:List Value}{x:DataW H×List MemPlace}(ht:Tryz.prog.underlying t=some (.int .i64))(h:TR enc w n t cs=some x):∃v:Int,cs=[.int .i64 v]/\IntKind.i64.min<=v/\v<=IntKind.i64.max:=by
 cases n with
 | zero=>cases h
 | succ n =>
  unfold TR DataW.trod at h
  rw[ht]at h
  split at h <;> simp_all
  obtain⟨⟨-,hw⟩,-⟩:=h
  simp only[Lit.wf,Bool.and_eq_true,decide_eq_true_eq]at hw
  exact hw
theorem rd_slice{α:Type}{row:α->List Value}{ok:α->Prop}{sz n:Nat}{t e:TypeId}{cs:List Value}{x:DataW H×List MemPlace}(ht:Tryz.prog.underlying t=some (.slice e))(hc:Tryz.prog.cellsOf e=sz)(hsz:0<sz)(hrow:∀a,(row a).length=sz)
  (hE:∀m,m<n->∀cs x,TR enc w m e cs=some x->∃a,row a=cs/\ok a) (h:TR enc w n t cs=some x):∃(s:Sl) (xs:List α),cs=[.slice s.p s.n s.c]/\qAc (qBa w) s sz (xs.map row)/\∀a∈xs,ok a:=by
 cases n with
 | zero=>cases h
 | succ n =>
  have key:∀(a:Addr) (len cap:Nat),TR enc w (n+1) t [.slice (some a) len cap]=some x->∃(xs:List α),qAc (qBa w) ⟨some a,len,cap⟩ sz (xs.map row)/\∀a∈xs,ok a:=by
   intro a len cap h
   unfold TR DataW.trod at h
   rw[ht]at h
   simp only at h
   split at h
   case isFalse=>cases h
   rename_i hcond
   simp only[Option.bind_eq_some_iff]at h
   obtain⟨elems,hm,-⟩:=h
   obtain⟨h1,h2⟩:=qFq hm
   have hex:∀i:Fin len,∃y:α,(qBa w).row (a.add (i*sz)) sz=some (row y)/\ok y:=by
    intro i
    obtain⟨b,-,hb⟩:=h2 i i (by simp)
    simp only[Option.bind_eq_some_iff]at hb
    obtain⟨ci,hci,hti⟩:=hb
    obtain⟨y,hy,hok⟩:=hE n (Nat.lt_succ_self n) ci _ hti
    rw[hc]at hci
    exact⟨y,by rw[hy];exact cells_row hci hsz,hok⟩
   refine⟨List.ofFn fun i=>Classical.choose (hex i),⟨by simp,hcond.2.1,by have:=hcond.2.2;unfold maxLen at this;omega,?_,?_⟩,?_⟩
   ·intro r hr
    simp only[List.mem_map]at hr
    obtain⟨y,-,rfl⟩:=hr
    exact hrow y
   ·intro i r hr
    simp only[List.getElem?_map,List.getElem?_ofFn]at hr
    split at hr
    ·rename_i hi
     simp only[Option.map_some,Option.some.injEq]at hr
     subst hr
     exact⟨a,rfl,(Classical.choose_spec (hex ⟨i,hi⟩)).1⟩
    ·cases hr
   ·intro y hy
    simp only[List.mem_ofFn]at hy
    obtain⟨i,rfl⟩:=hy
    exact(Classical.choose_spec (hex i)).2
  have main:cs=[.slice none 0 0]∨∃a len cap,cs=[.slice (some a) len cap]:=by
   unfold TR DataW.trod at h
   rw[ht]at h
   clear key hE
   split at h <;> first | (rename_i e;cases e;done) | (rename_i e _;cases e;done) | (rename_i e _ _;cases e;done) | (left;rfl) | (right;exact⟨_,_,_,rfl⟩) | (cases h;done) | skip
  rcases main with rfl|⟨a,len,cap,rfl⟩
  ·exact⟨⟨none,0,0⟩,[],rfl,qAc.nil,by simp⟩
  ·obtain⟨xs,g1,g2⟩:=key a len cap h
   exact⟨⟨some a,len,cap⟩,xs,rfl,g1,g2⟩
theorem qBc{n:Nat}{t:TypeId}{fs:Array Field}{cs:List Value}{x:DataW H×List MemPlace}(ht:Tryz.prog.underlying t=some (.struct fs))(h:TR enc w n t cs=some x) :
  cs.length=Tryz.prog.cellsOf t/\∃m,m<n/\∀(i:Nat) (f:Field),fs.toList[i]?=some f->∃y,TR enc w m f.type ((cs.drop f.offset).take (Tryz.prog.cellsOf f.type))=some y:=by
 cases n with
 | zero=>cases h
 | succ n =>
  have key:cs.length=Tryz.prog.cellsOf t->(∃xs,(fs.toList.mapM fun f=>DataW.trod enc Tryz.prog w 0 (fun _=>true) true n f.type ((cs.drop f.offset).take (Tryz.prog.cellsOf f.type)))=some xs) ->
    cs.length=Tryz.prog.cellsOf t/\∃m,m<n+1/\∀(i:Nat) (f:Field),fs.toList[i]?=some f->∃y,TR enc w m f.type ((cs.drop f.offset).take (Tryz.prog.cellsOf f.type))=some y:=by
   rintro hl ⟨xs,hx⟩
   refine⟨hl,n,Nat.lt_succ_self n,fun i f hf=>?_⟩
   obtain⟨-,h2⟩:=qFq hx
   obtain⟨b,-,hb⟩:=h2 i f hf
   exact⟨b,hb⟩
  unfold TR DataW.trod at h
  rw[ht]at h
  split at h
  all_goals first | (rename_i e;cases e;done) | (rename_i e _;cases e;done) | (rename_i e _ _;cases e;done) | (exact absurd rfl ((by assumption:∀fs_1:Array Field,some (TypeDesc.struct fs)=some (TypeDesc.struct fs_1)->False) fs)) | skip
  rename_i e
  cases e
  split at h
  ·rename_i hl
   simp only[Option.map_eq_some_iff]at h
   obtain⟨xs,hx,-⟩:=h
   exact key hl ⟨xs,hx⟩
  ·simp only[reduceCtorEq]at h
end
end Go.Proofs
namespace Go.Proofs
open Go Go.Sx
section
variable{H:Type}{enc:TypeId×Value->H}{w:World}
theorem at1{cs:List Value}{v:Value}{off m:Nat}{t:TypeId}(h:∃y,TR enc w m t ((cs.drop off).take (Tryz.prog.cellsOf t))=some y)(hc:Tryz.prog.cellsOf t=1)(hv:cs[off]?=some v):∃y,TR enc w m t [v]=some y:=by
 obtain⟨y,hy⟩:=h
 refine⟨y,?_⟩
 have hlt:=(List.getElem?_eq_some_iff.1 hv).1
 have e:(cs.drop off).take 1=[v]:=by
  rw[List.drop_eq_getElem_cons hlt,(List.getElem?_eq_some_iff.1 hv).2]
  simp
 rw[hc,e]at hy
 exact hy
theorem cl9:Tryz.prog.cellsOf 9=1:=by kernel_rfl
theorem cl3:Tryz.prog.cellsOf 3=1:=by kernel_rfl
theorem cl22:Tryz.prog.cellsOf 22=1:=by kernel_rfl
theorem cl23:Tryz.prog.cellsOf 23=1:=by kernel_rfl
theorem cl24:Tryz.prog.cellsOf 24=1:=by kernel_rfl
theorem cl25:Tryz.prog.cellsOf 25=1:=by kernel_rfl
theorem cl26:Tryz.prog.cellsOf 26=1:=by kernel_rfl
theorem cl27:Tryz.prog.cellsOf 27=1:=by kernel_rfl
theorem cl28:Tryz.prog.cellsOf 28=1:=by kernel_rfl
theorem cl38:Tryz.prog.cellsOf 114=1:=by kernel_rfl
theorem cl52:Tryz.prog.cellsOf 117=1:=by kernel_rfl
theorem cl40:Tryz.prog.cellsOf 116=4:=by kernel_rfl
theorem cl67:Tryz.prog.cellsOf 113=2:=by kernel_rfl
theorem cl94:Tryz.prog.cellsOf 132=2:=by kernel_rfl
theorem cl54:Tryz.prog.cellsOf 121=5:=by kernel_rfl
theorem cl75:Tryz.prog.cellsOf 119=5:=by kernel_rfl
theorem cl97:Tryz.prog.cellsOf 153=7:=by kernel_rfl
theorem cl58:Tryz.prog.cellsOf 156=6:=by kernel_rfl
theorem cl61:Tryz.prog.cellsOf 158=5:=by kernel_rfl
theorem cl64:Tryz.prog.cellsOf 160=5:=by kernel_rfl
theorem cl30:Tryz.prog.cellsOf 30=8:=by kernel_rfl
theorem gS{m:Nat}{v:Value}(h:∃y,TR enc w m 9 [v]=some y):∃s,v=.string s:=by
 obtain⟨y,hy⟩:=h
 obtain⟨s,e⟩:=rd_str Tryz.underlying9 hy
 exact⟨s,by simpa using e⟩
theorem gI{m:Nat}{v:Value}(h:∃y,TR enc w m 3 [v]=some y):∃n:Int,v=.int .i64 n/\IntKind.i64.min<=n/\n<=IntKind.i64.max:=by
 obtain⟨y,hy⟩:=h
 obtain⟨s,e,h1⟩:=rd_int Tryz.underlying3 hy
 exact⟨s,by simpa using e,h1⟩
theorem gSl{α:Type}{row:α->List Value}{ok:α->Prop}{sz m:Nat}{t e:TypeId}{v:Value}(ht:Tryz.prog.underlying t=some (.slice e))(hc:Tryz.prog.cellsOf e=sz)(hsz:0<sz)(hrow:∀a,(row a).length=sz)
  (hE:∀m',m'<m->∀cs x,TR enc w m' e cs=some x->∃a,row a=cs/\ok a) (h:∃y,TR enc w m t [v]=some y):∃(s:Sl) (xs:List α),v=.slice s.p s.n s.c/\qAc (qBa w) s sz (xs.map row)/\∀a∈xs,ok a:=by
 obtain⟨y,hy⟩:=h
 obtain⟨s,xs,e,h1,h2⟩:=rd_slice ht hc hsz hrow hE hy
 exact⟨s,xs,by simpa using e,h1,h2⟩
theorem len2{cs:List Value}(h:cs.length=2):∃a b,cs=[a,b]:=by
 match cs,h with
 | [a,b],_=>exact⟨a,b,rfl⟩
theorem len4{cs:List Value}(h:cs.length=4):∃a b c d,cs=[a,b,c,d]:=by
 match cs,h with
 | [a,b,c,d],_=>exact⟨a,b,c,d,rfl⟩
theorem len5{cs:List Value}(h:cs.length=5):∃a b c d e,cs=[a,b,c,d,e]:=by
 match cs,h with
 | [a,b,c,d,e],_=>exact⟨a,b,c,d,e,rfl⟩
theorem len6{cs:List Value}(h:cs.length=6):∃a b c d e f,cs=[a,b,c,d,e,f]:=by
 match cs,h with
 | [a,b,c,d,e,f],_=>exact⟨a,b,c,d,e,f,rfl⟩
theorem len7{cs:List Value}(h:cs.length=7):∃a b c d e f g,cs=[a,b,c,d,e,f,g]:=by
 match cs,h with
 | [a,b,c,d,e,f,g],_=>exact⟨a,b,c,d,e,f,g,rfl⟩
theorem len8{cs:List Value}(h:cs.length=8):∃a b c d e f g i,cs=[a,b,c,d,e,f,g,i]:=by
 match cs,h with
 | [a,b,c,d,e,f,g,i],_=>exact⟨a,b,c,d,e,f,g,i,rfl⟩
theorem rdFld{n:Nat}{cs:List Value}{x:DataW H×List MemPlace}(h:TR enc w n 113 cs=some x):∃f:Fld,Fld.row f=cs/\True:=by
 obtain⟨hl,m,-,hs⟩:=qBc Tryz.underlying113 h
 obtain⟨a,b,rfl⟩:=len2 (hl.trans cl67)
 obtain⟨s1,rfl⟩:=gS (at1 (hs 0 _ rfl) cl9 rfl)
 obtain⟨s2,rfl⟩:=gS (at1 (hs 1 _ rfl) cl9 rfl)
 exact⟨⟨s1,s2⟩,rfl,trivial⟩
theorem rdE:∀(n:Nat) (cs:List Value) (x:DataW H×List MemPlace),TR enc w n 116 cs=some x->∃e:E,E.row e=cs/\E.Ok (qBa w) e:=by
 intro n
 induction n using Nat.strongRecOn with
 | _ n ih =>
 intro cs x h
 obtain⟨hl,m,hm,hs⟩:=qBc Tryz.underlying116 h
 obtain⟨a,b,c,d,rfl⟩:=len4 (hl.trans cl40)
 obtain⟨op,rfl,ho⟩:=gI (at1 (hs 0 _ rfl) cl3 rfl)
 obtain⟨nn,rfl,hn⟩:=gI (at1 (hs 1 _ rfl) cl3 rfl)
 obtain⟨s,rfl⟩:=gS (at1 (hs 2 _ rfl) cl9 rfl)
 obtain⟨l,k,rfl,hr,hk⟩:=gSl (row:=E.row) (ok:=E.Ok (qBa w)) Tryz.underlying114 cl40 (by decide) (fun _=>rfl) (fun m' hm'=>ih m' (by omega)) (at1 (hs 3 _ rfl) cl38 rfl)
 exact⟨.mk op nn s l k,rfl,.mk hr hk ho hn⟩
theorem S.row_len:∀s:S,(S.row s).length=5:=fun s=>by cases s;rfl
theorem rdS:∀(n:Nat) (cs:List Value) (x:DataW H×List MemPlace),TR enc w n 119 cs=some x->∃e:S,S.row e=cs/\S.Ok (qBa w) e:=by
 intro n
 induction n using Nat.strongRecOn with
 | _ n ih =>
 intro cs x h
 obtain⟨hl,m,hm,hs⟩:=qBc Tryz.underlying119 h
 obtain⟨a,b,c,d,e,rfl⟩:=len5 (hl.trans cl75)
 obtain⟨op,rfl,ho⟩:=gI (at1 (hs 0 _ rfl) cl3 rfl)
 obtain⟨s,rfl⟩:=gS (at1 (hs 1 _ rfl) cl9 rfl)
 obtain⟨el,es,rfl,hr1,hk1⟩:=gSl (row:=E.row) (ok:=E.Ok (qBa w)) Tryz.underlying114 cl40 (by decide) (fun _=>rfl) (fun m' _=>rdE m') (at1 (hs 2 _ rfl) cl38 rfl)
 obtain⟨ll,ls,rfl,hr2,hk2⟩:=gSl (row:=S.row) (ok:=S.Ok (qBa w)) Tryz.underlying117 cl75 (by decide) S.row_len (fun m' hm'=>ih m' (by omega)) (at1 (hs 3 _ rfl) cl52 rfl)
 obtain⟨xl,xs,rfl,hr3,hk3⟩:=gSl (row:=S.row) (ok:=S.Ok (qBa w)) Tryz.underlying117 cl75 (by decide) S.row_len (fun m' hm'=>ih m' (by omega)) (at1 (hs 4 _ rfl) cl52 rfl)
 exact⟨.mk op s el es ll ls xl xs,rfl,.mk hr1 hk1 hr2 hk2 hr3 hk3 ho⟩
theorem gF{m:Nat}{v:Value}(h:∃y,TR enc w m 23 [v]=some y):∃(s:Sl) (xs:List Fld),v=.slice s.p s.n s.c/\qAc (qBa w) s 2 (xs.map Fld.row):=by
 obtain⟨s,xs,h1,h2,-⟩:=gSl (row:=Fld.row) (ok:=fun _=>True) Tryz.underlying23 cl67 (by decide) (fun _=>rfl) (fun _ _ _ _=>rdFld) h
 exact⟨s,xs,h1,h2⟩
theorem rdTy{n:Nat}{cs:List Value}{x:DataW H×List MemPlace}(h:TR enc w n 132 cs=some x):∃f:Ty,Ty.row f=cs/\Ty.Ok (qBa w) f:=by
 obtain⟨hl,m,-,hs⟩:=qBc Tryz.underlying132 h
 obtain⟨a,b,rfl⟩:=len2 (hl.trans cl94)
 obtain⟨s1,rfl⟩:=gS (at1 (hs 0 _ rfl) cl9 rfl)
 obtain⟨l,k,rfl,hr⟩:=gF (at1 (hs 1 _ rfl) cl23 rfl)
 exact⟨⟨s1,l,k⟩,rfl,⟨hr⟩⟩
theorem rdPr{n:Nat}{cs:List Value}{x:DataW H×List MemPlace}(h:TR enc w n 121 cs=some x):∃f:Pr,Pr.row f=cs/\Pr.Ok (qBa w) f:=by
 obtain⟨hl,m,-,hs⟩:=qBc Tryz.underlying121 h
 obtain⟨a,b,c,d,e,rfl⟩:=len5 (hl.trans cl54)
 obtain⟨s1,rfl⟩:=gS (at1 (hs 0 _ rfl) cl9 rfl)
 obtain⟨l1,k1,rfl,hr1⟩:=gF (at1 (hs 1 _ rfl) cl23 rfl)
 obtain⟨s2,rfl⟩:=gS (at1 (hs 2 _ rfl) cl9 rfl)
 obtain⟨l2,k2,rfl,hr2⟩:=gF (at1 (hs 3 _ rfl) cl23 rfl)
 obtain⟨l3,k3,rfl,hr3,hk3⟩:=gSl (row:=S.row) (ok:=S.Ok (qBa w)) Tryz.underlying117 cl75 (by decide) S.row_len (fun m' _=>rdS m') (at1 (hs 4 _ rfl) cl52 rfl)
 exact⟨⟨s1,l1,k1,s2,l2,k2,l3,k3⟩,rfl,⟨hr1,hr2,hr3,hk3⟩⟩
theorem rdMs{n:Nat}{cs:List Value}{x:DataW H×List MemPlace}(h:TR enc w n 153 cs=some x):∃f:Ms,Ms.row f=cs/\Ms.Ok (qBa w) f:=by
 obtain⟨hl,m,-,hs⟩:=qBc Tryz.underlying153 h
 obtain⟨a,b,c,d,e,f,g,rfl⟩:=len7 (hl.trans cl97)
 obtain⟨s1,rfl⟩:=gS (at1 (hs 0 _ rfl) cl9 rfl)
 obtain⟨s2,rfl⟩:=gS (at1 (hs 1 _ rfl) cl9 rfl)
 obtain⟨nn,rfl,hn⟩:=gI (at1 (hs 2 _ rfl) cl3 rfl)
 obtain⟨y,hy⟩:=hs 3 _ rfl
 change TR enc w m 116 (([Value.string s1,.string s2,.int .i64 nn,d,e,f,g].drop 3).take (Tryz.prog.cellsOf 116))=some y at hy
 rw[cl40]at hy
 obtain⟨x,hx,hxo⟩:=rdE m _ _ hy
 simp only[List.drop_succ_cons,List.drop_zero,List.take_succ_cons,List.take_zero,E.row,List.cons.injEq,and_true]at hx
 obtain⟨rfl,rfl,rfl,rfl⟩:=hx
 exact⟨⟨s1,s2,nn,x⟩,rfl,⟨hxo,hn⟩⟩
theorem rdIv{n:Nat}{cs:List Value}{x:DataW H×List MemPlace}(h:TR enc w n 156 cs=some x):∃f:Iv,Iv.row f=cs/\E.Ok (qBa w) f.x:=by
 obtain⟨hl,m,-,hs⟩:=qBc Tryz.underlying156 h
 obtain⟨a,b,d,e,f,g,rfl⟩:=len6 (hl.trans cl58)
 obtain⟨s1,rfl⟩:=gS (at1 (hs 0 _ rfl) cl9 rfl)
 obtain⟨s2,rfl⟩:=gS (at1 (hs 1 _ rfl) cl9 rfl)
 obtain⟨y,hy⟩:=hs 2 _ rfl
 change TR enc w m 116 (([Value.string s1,.string s2,d,e,f,g].drop 2).take (Tryz.prog.cellsOf 116))=some y at hy
 rw[cl40]at hy
 obtain⟨x,hx,hxo⟩:=rdE m _ _ hy
 simp only[List.drop_succ_cons,List.drop_zero,List.take_succ_cons,List.take_zero,E.row,List.cons.injEq,and_true]at hx
 obtain⟨rfl,rfl,rfl,rfl⟩:=hx
 exact⟨⟨s1,s2,x⟩,rfl,hxo⟩
theorem rdPo{n:Nat}{cs:List Value}{x:DataW H×List MemPlace}(h:TR enc w n 158 cs=some x):∃f:Po,Po.row f=cs/\E.Ok (qBa w) f.x:=by
 obtain⟨hl,m,-,hs⟩:=qBc Tryz.underlying158 h
 obtain⟨a,d,e,f,g,rfl⟩:=len5 (hl.trans cl61)
 obtain⟨s1,rfl⟩:=gS (at1 (hs 0 _ rfl) cl9 rfl)
 obtain⟨y,hy⟩:=hs 1 _ rfl
 change TR enc w m 116 (([Value.string s1,d,e,f,g].drop 1).take (Tryz.prog.cellsOf 116))=some y at hy
 rw[cl40]at hy
 obtain⟨x,hx,hxo⟩:=rdE m _ _ hy
 simp only[List.drop_succ_cons,List.drop_zero,List.take_succ_cons,List.take_zero,E.row,List.cons.injEq,and_true]at hx
 obtain⟨rfl,rfl,rfl,rfl⟩:=hx
 exact⟨⟨s1,x⟩,rfl,hxo⟩
theorem rdBd{n:Nat}{cs:List Value}{x:DataW H×List MemPlace}(h:TR enc w n 160 cs=some x):∃f:Bd,Bd.row f=cs/\E.Ok (qBa w) f.x:=by
 obtain⟨hl,m,-,hs⟩:=qBc Tryz.underlying160 h
 obtain⟨a,d,e,f,g,rfl⟩:=len5 (hl.trans cl64)
 obtain⟨s1,rfl⟩:=gS (at1 (hs 0 _ rfl) cl9 rfl)
 obtain⟨y,hy⟩:=hs 1 _ rfl
 change TR enc w m 116 (([Value.string s1,d,e,f,g].drop 1).take (Tryz.prog.cellsOf 116))=some y at hy
 rw[cl40]at hy
 obtain⟨x,hx,hxo⟩:=rdE m _ _ hy
 simp only[List.drop_succ_cons,List.drop_zero,List.take_succ_cons,List.take_zero,E.row,List.cons.injEq,and_true]at hx
 obtain⟨rfl,rfl,rfl,rfl⟩:=hx
 exact⟨⟨s1,x⟩,rfl,hxo⟩
theorem rdDs{n:Nat}{cs:List Value}{x:DataW H×List MemPlace}(h:TR enc w n 30 cs=some x):∃d:Ds,d.row=cs/\Ds.Ok (qBa w) d:=by
 obtain⟨hl,m,-,hs⟩:=qBc Tryz.underlying30 h
 obtain⟨a,b,c,d,e,f,g,i,rfl⟩:=len8 (hl.trans cl30)
 obtain⟨s1,rfl⟩:=gS (at1 (hs 0 _ rfl) cl9 rfl)
 obtain⟨l1,k1,rfl,h1,o1⟩:=gSl (row:=Ty.row) (ok:=Ty.Ok (qBa w)) Tryz.underlying22 cl94 (by decide) (fun _=>rfl) (fun _ _ _ _=>rdTy) (at1 (hs 1 _ rfl) cl22 rfl)
 obtain⟨l2,k2,rfl,h2⟩:=gF (at1 (hs 2 _ rfl) cl23 rfl)
 obtain⟨l3,k3,rfl,h3,o3⟩:=gSl (row:=Pr.row) (ok:=Pr.Ok (qBa w)) Tryz.underlying24 cl54 (by decide) (fun _=>rfl) (fun _ _ _ _=>rdPr) (at1 (hs 3 _ rfl) cl24 rfl)
 obtain⟨l4,k4,rfl,h4,o4⟩:=gSl (row:=Ms.row) (ok:=Ms.Ok (qBa w)) Tryz.underlying25 cl97 (by decide) (fun _=>rfl) (fun _ _ _ _=>rdMs) (at1 (hs 4 _ rfl) cl25 rfl)
 obtain⟨l5,k5,rfl,h5,o5⟩:=gSl (row:=Iv.row) (ok:=fun f=>E.Ok (qBa w) f.x) Tryz.underlying26 cl58 (by decide) (fun _=>rfl) (fun _ _ _ _=>rdIv) (at1 (hs 5 _ rfl) cl26 rfl)
 obtain⟨l6,k6,rfl,h6,o6⟩:=gSl (row:=Po.row) (ok:=fun f=>E.Ok (qBa w) f.x) Tryz.underlying27 cl61 (by decide) (fun _=>rfl) (fun _ _ _ _=>rdPo) (at1 (hs 6 _ rfl) cl27 rfl)
 obtain⟨l7,k7,rfl,h7,o7⟩:=gSl (row:=Bd.row) (ok:=fun f=>E.Ok (qBa w) f.x) Tryz.underlying28 cl64 (by decide) (fun _=>rfl) (fun _ _ _ _=>rdBd) (at1 (hs 7 _ rfl) cl28 rfl)
 exact⟨⟨s1,l1,k1,l2,k2,l3,k3,l4,k4,l5,k5,l6,k6,l7,k7⟩,rfl,⟨h1,o1,h2,h3,o3,h4,o4,h5,o5,h6,o6,h7,o7⟩⟩
end
end Go.Proofs
namespace Go.Proofs.YtginfholjbbgeaaGreatDoor
open Go Go.Sx Go.Proofs Go.ChangeShapes Go.WideShapes Go.ChangeAt Go.RowKit
theorem same_old{P:Program}{f:FuncId}{args:List Value}{W:World}{v:Value}(h:Pur P f args (qBa W) v):Calls P f args.toArray W fun e W'=>e=.returned v/\W'.os=W.os/\W'.output=W.output/\W.heap.size<=W'.heap.size/\∀b,b<W.heap.size->W'.heap[b]?=W.heap[b]?:=by
 have h2:Tri P f args.toArray (qBa W) fun e V'=>e=.returned v/\V'=qBa W:=h
 unfold Tri at h2
 refine qCB (h2 W (heapM_le W)) ?_
 rintro e W' ⟨V',⟨rfl,rfl⟩,hF⟩
 refine⟨rfl,hF.os,hF.out,hF.size,fun b hb=>?_⟩
 have:qBa W b=some W.heap[b]:=Array.getElem?_eq_getElem hb
 rw[hF.le b _ this];exact this.symm
theorem Tryz.own:ownKnob Tryz.prog.godebug=none:=by kernel_rfl
theorem Tryz.laidOut:laidOutB Tryz.prog=true:=by kernel_rfl
theorem tab_of{W:World}(h:Lib.TabIs Tryz.prog W "strings.asciiSpace" .u8 Lib.asciiSpaceTab):Tab (qBa W):=by
 have hg:Tryz.prog.globalNamed "strings.asciiSpace" = some 0:=by kernel_rfl
 unfold Lib.TabIs World.var? at h
 rw[hg,Option.bind_some]at h
 split at h
 ·rename_i cs t fr hb
  simp only[Option.some.injEq]at h
  exact⟨t,fr,by rw[<- h];exact hb⟩
 ·cases h
theorem desc_of{H:Type}{enc:TypeId×Value->H}{W:World}{v:Value}{d0:DataW H}{p:List MemPlace}(h:DataW.Trod enc Tryz.prog W 0 (fun _=>true) true 30 v d0 p):∃d:Ds,v=d.v/\Ds.Ok (qBa W) d:=by
 obtain⟨fuel,h⟩:=h
 obtain⟨d,hd,hok⟩:=rdDs h
 refine⟨d,?_,hok⟩
 have hl:v.cells.toList.length=8:=by rw[<- hd];rfl
 cases v with
 | agg cs =>
  have:cs.toList=d.row:=hd.symm
  show Value.agg cs=.agg d.row.toArray
  rw[<- this]
 | _=>simp[Value.cells]at hl
noncomputable def laidWorld(os:Os):World :=
 let w0:=World.holding Tryz.prog os ⟨#[.cells #[.int .u16 9,.int .u16 13,.int .u16 1,.int .u16 32,.int .u16 133,.int .u16 101,.int .u16 160,.int .u16 5760,.int .u16 5600,.int .u16 8192,.int .u16 8202,.int .u16 1,.int .u16 8232,.int .u16 8233,.int .u16 1,.int .u16 8239,.int .u16 8287,.int .u16 48,.int .u16 12288,.int .u16 12288,.int .u16 1] 344,
  .cells #[.slice (some ⟨(World.settled Tryz.prog os).heap.size,0,none⟩) 7 7,.slice none 0 0,.int .i64 2] 342],#[],[]⟩
 {w0 with heap:=(w0.heap.modify 0 fun
   | .cells _ t frozen=>.cells (Lib.asciiSpaceTab.map fun z=>Value.int .u8 z).toArray t frozen
   | o=>o).modify 1 fun
   | .cells _ t frozen=>.cells #[.pointer (some ⟨(World.settled Tryz.prog os).heap.size+1,0,none⟩)] t frozen
   | o=>o }
theorem qJo(os:Os)(args:Array Value):laidMet Tryz.prog [("unicode.White_Space",Rows.laid_unicode_White_Space),("strings.asciiSpace",Rows.laid_strings_asciiSpace)] ((laidWorld os).forCall (fun _ _=>0) ⟨#[],args,[]⟩).memory :=
 (LaidIn.of_run [0,1,(World.settled Tryz.prog os).heap.size,(World.settled Tryz.prog os).heap.size+1] 12 (by kernel_rfl) (by kernel_rfl) (by kernel_rfl) (by kernel_rfl)).met
end Go.Proofs.YtginfholjbbgeaaGreatDoor
namespace Go.Proofs.YtginfholjbbgeaaGreatDoor
open Go Go.Sx Go.Proofs Go.ChangeShapes Go.WideShapes Go.ChangeAt Go.RowKit
abbrev laid0:List (String×DataW Unit):=[("unicode.White_Space",Rows.laid_unicode_White_Space),("strings.asciiSpace",Rows.laid_strings_asciiSpace)]
theorem noHandles:(laid0.filter fun x=>x.2.handleName?.isSome)=[]:=by kernel_rfl
theorem qGs{w:World}:laidMetH Tryz.prog laid0 w↔laidMet Tryz.prog laid0 w:=by
 unfold laidMetH
 rw[noHandles]
theorem tab_laid{W:World}(h:laidMet Tryz.prog laid0 W):Tab (qBa W):=by
 obtain⟨ps,h1,h2,h3⟩:=h
 obtain⟨g,t,cs,fuel,p,q,hg,ht,hvar,hd,hrest,hps⟩:=h1
 obtain⟨g',t',cs',fuel',p',q',hg',ht',hvar',hd',hrest',hps'⟩:=hrest
 refine tab_of ?_
 unfold Lib.TabIs
 rw[hvar']
 have hgg:g'=0:=Option.some.inj (hg'.symm.trans (show Tryz.prog.globalNamed "strings.asciiSpace" = some 0 by kernel_rfl))
 subst hgg
 have htt:t'=325:=Option.some.inj (ht'.symm.trans (show (Tryz.prog.globals[0]?).map (·.type)=some 325 by kernel_rfl))
 subst htt
 have hdat:(Rows.laid_strings_asciiSpace:DataW Unit)=Lib.tabData .u8 Lib.asciiSpaceTab:=by kernel_rfl
 rw[hdat]at hd'
 rw[<- Lib.cells_of_tab (n:=256) (e:=5) Tryz.underlying325 Tryz.underlying5 (by kernel_rfl) (by kernel_rfl) hd']
theorem kept{W W':World}(h1:W'.os=W.os)(h2:W'.output=W.output)(hold:∀b,b<W.heap.size->W'.heap[b]?=W.heap[b]?)(may:MemPlace->Prop):W.keptBut W' may:=by
 refine⟨h1,h2,fun i hi=>?_⟩
 rw[hold i hi]
 split <;> simp_all
theorem again_arg{H:Type}{enc:TypeId×Value->H}{t:TypeId}(hr:Tryz.prog.readableRec t=true)(hrow:t<Tryz.prog.types.size){W W':World}{v:Value}{d:DataW H}{ps:List MemPlace}(h:DataW.Trod enc Tryz.prog W 0 (fun _=>true) true t v d ps)
  (hold:∀b,b<W.heap.size->W'.heap[b]?=W.heap[b]?) (hlt:∀x∈ps,x.block<W.heap.size):DataW.Trod enc Tryz.prog W' 0 (fun b=>decide (b<W.heap.size)) true t v d ps :=
 WideElems.Trod_stays Tryz.laidOut hr hrow h (fun x hx=>by
  have:=hlt x hx
  cases x with
  | cell b o=>exact World.cell?_of_block (w:=W) (hold b this)
  | map b=>exact hold b this) (fun x hx=>by simpa using hlt x hx)
theorem wit{C:Checked}{os:Os}{f:FuncId}{fn:Func}{s:ChangeSpec}{conds:List PathCond}{apart:Bool}{X:World->Array Value->Prop}{H:Type}{enc:TypeId×Value->H}(w0:World)(args:Array Value)(fuel:Nat)(hos:w0.os=os)
  (hv:(w0.forCall (fun _ _=>0) ⟨#[],args,[]⟩).variablesRefB C.prog=true)
  (hr:((w0.forCall (fun _ _=>0) ⟨#[],args,[]⟩).heap.toList.drop C.prog.globals.size).take ((begin C.prog (fun _ _=>0) default).world.heap.size-C.prog.globals.size) =
   (begin C.prog (fun _ _=>0) default).world.heap.toList.drop C.prog.globals.size)
  (hok:Input.okWideB C.prog (w0.forCall (fun _ _=>0) ⟨#[],args,[]⟩) f ⟨#[],args,[]⟩=true)
  (hpre:s.preB enc C.prog fn conds apart (w0.forCall (fun _ _=>0) ⟨#[],args,[]⟩).memory args fuel=true)
  (hsz:s.sizedB enc C.prog fn apart (w0.forCall (fun _ _=>0) ⟨#[],args,[]⟩).memory args fuel=true)
  (hx:X (w0.forCall (fun _ _=>0) ⟨#[],args,[]⟩).memory args) :
  ∃(w:World) (tape:Tape) (i:Input),w.os=os/\(w.forCall tape i).Shaped C.prog/\i.vars=[]/\Input.okWide C.prog (w.forCall tape i) .any w.heap.size f i /\
   ((s.pre enc C.prog fn conds apart (w.forCall tape i).memory i.args/\X (w.forCall tape i).memory i.args)/\sizedMet enc C.prog fn (OpenSpec.ofChange s) apart (w.forCall tape i).memory i.args)/\({}:Assume).holds C.prog (lone (Frame.enter C.prog f i.args .normal) [] (w.forCall tape i)) :=
 ⟨w0,fun _ _=>0,⟨#[],args,[]⟩,hos,World.shaped_of_RefB hv hr,(Input.okWide_of_okWideB (base:=0) hok).1,(Input.okWide_of_okWideB hok).2,⟨⟨ChangeSpec.pre_of_preB hpre,hx⟩,sizedMet_of_sizedB hsz⟩,by
  first|exact⟨trivial,trivial⟩|simp[Assume.holds]⟩
theorem again_all{H:Type}{enc:TypeId×Value->H}{W W':World}(hold:∀b,b<W.heap.size->W'.heap[b]?=W.heap[b]?):∀{ts:List TypeId} {vs:List Value} {ds:List (DataW H)} {ps:List MemPlace},(∀t∈ts,Tryz.prog.readableRec t=true/\t<Tryz.prog.types.size) ->
  DataW.TrodAll enc Tryz.prog W 0 (fun _=>true) true ts vs ds ps->(∀x∈ps,x.block<W.heap.size)->DataW.TrodAll enc Tryz.prog W' 0 (fun b=>decide (b<W.heap.size)) true ts vs ds ps
 | [],_,_,_,_,h,_=>by
  obtain⟨rfl,rfl,rfl⟩:=trodAll_nil h
  exact trodAll_mk0
 | t::ts,_,_,_,hr,h,hlt=>by
  obtain⟨v,vs,d,ds,p,q,rfl,rfl,rfl,h1,h2⟩:=trodAll_cons h
  exact⟨p,q,again_arg (hr t (by simp)).1 (hr t (by simp)).2 h1 hold (fun x hx=>hlt x (List.mem_append_left _ hx)),again_all hold (fun u hu=>hr u (by simp[hu])) h2 (fun x hx=>hlt x (List.mem_append_right _ hx)),rfl⟩
theorem trodAll_five{H:Type}{enc:TypeId×Value->H}{w:World}{a b c d e:TypeId}{args:Array Value}{ds:List (DataW H)}{ps:List MemPlace}(h:DataW.TrodAll enc Tryz.prog w 0 (fun _=>true) true [a,b,c,d,e] args.toList ds ps) :
  ∃v0 v1 v2 v3 v4 d0 d1 d2 d3 d4 p0 p1 p2 p3 p4,args=#[v0,v1,v2,v3,v4]/\ds=[d0,d1,d2,d3,d4]/\ps=p0++(p1++(p2++(p3++p4)))/\DataW.Trod enc Tryz.prog w 0 (fun _=>true) true a v0 d0 p0/\DataW.Trod enc Tryz.prog w 0 (fun _=>true) true b v1 d1 p1/\DataW.Trod enc Tryz.prog w 0 (fun _=>true) true c v2 d2 p2 /\
   DataW.Trod enc Tryz.prog w 0 (fun _=>true) true d v3 d3 p3/\DataW.Trod enc Tryz.prog w 0 (fun _=>true) true e v4 d4 p4:=by
 obtain⟨v0,vs,d0,ds',p,q,hargs,rfl,rfl,h0,hrest⟩:=trodAll_cons h
 obtain⟨v1,vs1,d1,ds1,p1,q1,rfl,rfl,rfl,h1,hrest⟩:=trodAll_cons hrest
 obtain⟨v2,vs2,d2,ds2,p2,q2,rfl,rfl,rfl,h2,hrest⟩:=trodAll_cons hrest
 obtain⟨v3,vs3,d3,ds3,p3,q3,rfl,rfl,rfl,h3,hrest⟩:=trodAll_cons hrest
 obtain⟨v4,vs4,d4,ds4,p4,q4,rfl,rfl,rfl,h4,hrest⟩:=trodAll_cons hrest
 obtain⟨rfl,rfl,rfl⟩:=trodAll_nil hrest
 exact⟨v0,v1,v2,v3,v4,d0,d1,d2,d3,d4,p,p1,p2,p3,p4,by cases args;simp_all,rfl,by simp,h0,h1,h2,h3,h4⟩
end Go.Proofs.YtginfholjbbgeaaGreatDoor
namespace Go.Proofs.YtginfholjbbgeaaGreatDoor
open Go Go.Sx Go.Proofs Go.ChangeShapes Go.WideShapes Go.ChangeAt Go.RowKit
section
variable{H:Type}{enc:TypeId×Value->H}{w:World}
theorem cl31:Tryz.prog.cellsOf 31=1:=by kernel_rfl
theorem clNd:Tryz.prog.cellsOf 104=2:=by kernel_rfl
theorem clNds:Tryz.prog.cellsOf 32=1:=by kernel_rfl
theorem clMm:Tryz.prog.cellsOf 34=2:=by kernel_rfl
theorem gInts{m:Nat}{v:Value}(h:∃y,TR enc w m 31 [v]=some y):∃(s:Sl) (xs:List Int),v=.slice s.p s.n s.c/\qAc (qBa w) s 1 (xs.map qAm)/\∀x∈xs,inI x :=
 gSl (row:=qAm) (ok:=inI) Tryz.underlying31 cl3 (by decide) (fun _=>rfl) (fun m' _ cs x hx=>by
  obtain⟨n,rfl,hn⟩:=rd_int Tryz.underlying3 hx
  exact⟨n,rfl,hn⟩) h
theorem rdNd{n:Nat}{cs:List Value}{x:DataW H×List MemPlace}(h:TR enc w n 104 cs=some x):∃f:Nd,Nd.row f=cs/\Nd.Ok (qBa w) f:=by
 obtain⟨hl,m,-,hs⟩:=qBc Tryz.underlying104 h
 obtain⟨a,b,rfl⟩:=len2 (hl.trans clNd)
 obtain⟨t,rfl,ht⟩:=gI (at1 (hs 0 _ rfl) cl3 rfl)
 obtain⟨l,k,rfl,hr,hk⟩:=gInts (at1 (hs 1 _ rfl) cl31 rfl)
 exact⟨⟨t,l,k⟩,rfl,⟨hr,ht,hk⟩⟩
theorem rdMm{n:Nat}{cs:List Value}{x:DataW H×List MemPlace}(h:TR enc w n 34 cs=some x):∃m:Mm,m.row=cs/\Mm.Ok (qBa w) m:=by
 obtain⟨hl,m,-,hs⟩:=qBc Tryz.underlying34 h
 obtain⟨a,b,rfl⟩:=len2 (hl.trans clMm)
 obtain⟨l1,k1,rfl,h1,o1⟩:=gInts (at1 (hs 0 _ rfl) cl31 rfl)
 obtain⟨l2,k2,rfl,h2,o2⟩:=gSl (row:=Nd.row) (ok:=Nd.Ok (qBa w)) Tryz.underlying32 clNd (by decide) (fun _=>rfl) (fun _ _ _ _=>rdNd) (at1 (hs 1 _ rfl) clNds rfl)
 exact⟨⟨l1,k1,l2,k2⟩,rfl,⟨h1,o1,h2,o2⟩⟩
theorem clCl:Tryz.prog.cellsOf 48=2:=by kernel_rfl
theorem rdCl{n:Nat}{cs:List Value}{x:DataW H×List MemPlace}(h:TR enc w n 48 cs=some x):∃(nm:ByteArray) (l:Sl) (xs:List Int),[Value.string nm,l.v]=cs/\qAc (qBa w) l 1 (xs.map qAm):=by
 obtain⟨hl,m,-,hs⟩:=qBc Tryz.underlying48 h
 obtain⟨a,b,rfl⟩:=len2 (hl.trans clCl)
 obtain⟨t,rfl⟩:=gS (at1 (hs 0 _ rfl) cl9 rfl)
 obtain⟨l,k,rfl,hr,-⟩:=gInts (at1 (hs 1 _ rfl) cl31 rfl)
 exact⟨t,l,k,rfl,hr⟩
end
theorem mem_of{H:Type}{enc:TypeId×Value->H}{W:World}{v:Value}{d0:DataW H}{p:List MemPlace}(h:DataW.Trod enc Tryz.prog W 0 (fun _=>true) true 34 v d0 p):∃m:Mm,v=m.v/\Mm.Ok (qBa W) m:=by
 obtain⟨fuel,h⟩:=h
 obtain⟨m,hm,hok⟩:=rdMm h
 refine⟨m,?_,hok⟩
 have hl:v.cells.toList.length=2:=by rw[<- hm];rfl
 cases v with
 | agg cs =>
  have:cs.toList=m.row:=hm.symm
  show Value.agg cs=.agg m.row.toArray
  rw[<- this]
 | _=>simp[Value.cells]at hl
theorem call_of{H:Type}{enc:TypeId×Value->H}{W:World}{v:Value}{d0:DataW H}{p:List MemPlace}(h:DataW.Trod enc Tryz.prog W 0 (fun _=>true) true 48 v d0 p):∃(nm:ByteArray) (l:Sl) (xs:List Int),v=.agg #[.string nm,l.v]/\qAc (qBa W) l 1 (xs.map qAm):=by
 obtain⟨fuel,h⟩:=h
 obtain⟨nm,l,xs,hm,hok⟩:=rdCl h
 refine⟨nm,l,xs,?_,hok⟩
 have hl:v.cells.toList.length=2:=by rw[<- hm];rfl
 cases v with
 | agg cs =>
  have:cs.toList=[Value.string nm,l.v]:=hm.symm
  show Value.agg cs=.agg ([Value.string nm,l.v]:List Value).toArray
  rw[<- this]
 | _=>simp[Value.cells]at hl
theorem u16R{n:Int}(h:(Lit.int .u16 n).wf=true):0<=n/\n<=65535:=by
 simp only[Lit.wf,Bool.and_eq_true,decide_eq_true_eq]at h
 exact⟨h.1,h.2⟩
end Go.Proofs.YtginfholjbbgeaaGreatDoor
namespace Go.Proofs
open Go Go.Sx
structure En where
 node:Int
 field:Int
 old:Int
 new:Int
 al:Bool
 typ:Int
 size:Int
def qGC(x:Gm)(n i:Nat):Int:=if n=0 then x.1.getD i 0 else ((x.2.getD (n-1) (0,[])).2).getD i 0
def qIV(x:Gm)(n i:Nat)(v:Int):Gm:=if n=0 then (x.1.set i v,x.2) else match x.2[n-1]? with
 | some y=>(x.1,x.2.set (n-1) (y.1,y.2.set i v))
 | none=>x
def qHS(x:Gm)(e:En):Gm:=if e.al=true then (x.1,x.2.take (e.node-1).toNat) else qIV x e.node.toNat e.field.toNat e.old
def redo1(x:Gm)(e:En):Gm:=if e.al=true then (x.1,x.2++[(e.typ,List.replicate e.size.toNat 0)]) else qIV x e.node.toNat e.field.toNat e.new
def qIa(d:Ds)(b a:Gm)(t:Int×Int×Int):List En :=
 if t.1=2 then [⟨t.2.1,t.2.2,qGC b t.2.1.toNat t.2.2.toNat,qGC a t.2.1.toNat t.2.2.toNat,false,0,0⟩]
 else if t.1=3 then [⟨t.2.1,0,0,0,true,t.2.2,((qAn d t.2.2).length:Int)⟩] else []
def qBD(d:Ds)(b a:Gm)(l:List (Int×Int×Int)):List En:=l.flatMap (qIa d b a)
def Sh(u x:Gm):Prop:=u.1.length=x.1.length/\(u.2.map fun y=>(y.1,y.2.length))=x.2.map fun y=>(y.1,y.2.length)
def Qp(B:Nat->Nat->Int)(u x:Gm):Prop:=Sh u x/\∀n i,qGC u n i=qGC x n i∨qGC u n i=B n i
section
variable{u x y:Gm}{B:Nat->Nat->Int}
theorem Sh.refl(x:Gm):Sh x x:=⟨rfl,rfl⟩
theorem Sh.len(h:Sh u x):u.2.length=x.2.length:=by have:=congrArg List.length h.2;simpa using this
theorem Sh.at_(h:Sh u x){k:Nat}{t:Int}{f:List Int}(hk:x.2[k]?=some (t,f)):∃f',u.2[k]?=some (t,f')/\f'.length=f.length:=by
 have h2:=congrArg (fun l=>l[k]?) h.2
 simp only[List.getElem?_map,hk,Option.map_some]at h2
 cases hu:u.2[k]? with
 | none=>rw[hu]at h2;cases h2
 | some y =>
  rw[hu]at h2
  simp only[Option.map_some,Option.some.injEq,Prod.mk.injEq]at h2
  exact⟨y.2,by rw[<- h2.1],h2.2⟩
theorem Sh.symm(h:Sh u x):Sh x u:=⟨h.1.symm,h.2.symm⟩
theorem loc_g(x:Gm)(i:Nat):qGC x 0 i=x.1.getD i 0:=rfl
theorem qFr(x:Gm)(k i:Nat):qGC x (k+1) i=((x.2.getD k (0,[])).2).getD i 0:=rfl
theorem loc_at{k i:Nat}{t:Int}{f:List Int}(h:x.2[k]?=some (t,f)):qGC x (k+1) i=f.getD i 0:=by
 have e:x.2.getD k (0,[])=(t,f):=by rw[List.getD_eq_getElem?_getD,h];rfl
 rw[qFr,e]
theorem ext_loc(h:Sh u x)(hl:∀n i,qGC u n i=qGC x n i):u=x:=by
 refine Prod.ext (List.ext_getElem? fun i=>?_) (List.ext_getElem? fun k=>?_)
 ·have:=hl 0 i
  rw[loc_g,loc_g,List.getD_eq_getElem?_getD,List.getD_eq_getElem?_getD]at this
  by_cases hi:i<x.1.length
  ·rw[List.getElem?_eq_getElem hi,List.getElem?_eq_getElem (h.1 ▸ hi)]at this ⊢
   exact congrArg some this
  ·have h1:=h.1
   rw[List.getElem?_eq_none (by omega),List.getElem?_eq_none (by omega)]
 ·cases hk:x.2[k]? with
  | none =>
   rw[List.getElem?_eq_none_iff]at hk ⊢
   rw[h.len];exact hk
  | some y =>
   obtain⟨f',h1,h2⟩:=h.at_ (t:=y.1) (f:=y.2) hk
   rw[h1]
   refine congrArg some (Prod.ext rfl (List.ext_getElem? fun i=>?_))
   have:=hl (k+1) i
   rw[loc_at h1,loc_at (t:=y.1) (f:=y.2) hk,List.getD_eq_getElem?_getD,List.getD_eq_getElem?_getD]at this
   show f'[i]?=y.2[i]?
   by_cases hi:i<y.2.length
   ·rw[List.getElem?_eq_getElem hi,List.getElem?_eq_getElem (h2 ▸ hi)]at this ⊢
    exact congrArg some this
   ·rw[List.getElem?_eq_none (by omega),List.getElem?_eq_none (by omega)]
theorem Qp.eq(h:Qp (qGC x) u x):u=x:=ext_loc h.1 fun n i=>(h.2 n i).elim id id
theorem getD_sett{l:List Int}{i j:Nat}{v:Int}(hi:i<l.length):(l.set i v).getD j 0=if j=i then v else l.getD j 0:=by
 rw[List.getD_eq_getElem?_getD,List.getD_eq_getElem?_getD,List.getElem?_set]
 by_cases h:i=j
 ·subst h;rw[if_pos rfl,if_pos rfl,if_pos hi];rfl
 ·rw[if_neg h,if_neg (Ne.symm h)]
theorem set_g(x:Gm)(i:Nat)(v:Int):qIV x 0 i v=(x.1.set i v,x.2):=rfl
theorem set_n{k i:Nat}{t v:Int}{f:List Int}(h:x.2[k]?=some (t,f)):qIV x (k+1) i v=(x.1,x.2.set k (t,f.set i v)):=by
 unfold qIV
 rw[if_neg (by omega),show k+1-1=k by omega,h]
theorem qIm{n i:Nat}{v:Int}:Sh (qIV x n i v) x:=by
 unfold qIV
 split
 ·exact⟨by simp,rfl⟩
 ·split
  ·rename_i y hy
   refine⟨rfl,List.ext_getElem? fun k=>?_⟩
   rw[List.getElem?_map,List.getElem?_map,List.getElem?_set]
   split
   ·rename_i e;subst e
    rw[if_pos (List.getElem?_eq_some_iff.1 hy).1,hy];simp
   ·rfl
  ·exact Sh.refl x
def InP(x:Gm)(n i:Nat):Prop:=(n=0/\i<x.1.length)∨∃k t f,n=k+1/\x.2[k]?=some (t,f)/\i<f.length
theorem InP.sh{n i:Nat}(h:InP x n i)(hs:Sh u x):InP u n i:=by
 rcases h with⟨rfl,h⟩|⟨k,t,f,rfl,h1,h2⟩
 ·exact .inl ⟨rfl,by rw[hs.1];exact h⟩
 ·obtain⟨f',e1,e2⟩:=hs.at_ h1
  exact .inr ⟨k,t,f',rfl,e1,by omega⟩
theorem qJm{n i:Nat}{v:Int}(h:InP x n i)(m j:Nat):qGC (qIV x n i v) m j=if m=n/\j=i then v else qGC x m j:=by
 rcases h with⟨rfl,h⟩|⟨k,t,f,rfl,h1,h2⟩
 ·rw[set_g]
  cases m with
  | zero =>
   rw[loc_g,loc_g,getD_sett h]
   by_cases hj:j=i
   ·rw[if_pos hj,if_pos ⟨rfl,hj⟩]
   ·rw[if_neg hj,if_neg fun e=>hj e.2]
  | succ m=>rw[qFr,qFr,if_neg fun e=>by have:=e.1;omega]
 ·rw[set_n h1]
  cases m with
  | zero=>rw[loc_g,loc_g,if_neg fun e=>by have:=e.1;omega]
  | succ m =>
   by_cases hm:m=k
   ·subst hm
    have hl:=(List.getElem?_eq_some_iff.1 h1).1
    rw[loc_at (x:=(x.1,x.2.set m (t,f.set i v))) (t:=t) (f:=f.set i v) (by show (x.2.set m _)[m]?=_;rw[List.getElem?_set_self hl]),loc_at h1,getD_sett h2]
    by_cases hj:j=i
    ·rw[if_pos hj,if_pos ⟨rfl,hj⟩]
    ·rw[if_neg hj,if_neg fun e=>hj e.2]
   ·rw[qFr,qFr,if_neg fun e=>hm (by have:=e.1;omega)]
    have e:(x.2.set k (t,f.set i v)).getD m (0,[])=x.2.getD m (0,[]):=by rw[List.getD_eq_getElem?_getD,List.getElem?_set_ne (Ne.symm hm),<- List.getD_eq_getElem?_getD]
    show ((x.2.set k (t,f.set i v)).getD m (0,[])).2.getD j 0=_
    rw[e]
theorem Sh.trans{z:Gm}(h:Sh u x)(k:Sh x z):Sh u z:=⟨h.1.trans k.1,h.2.trans k.2⟩
theorem Qp.fwd{n i:Nat}{v:Int}(h:Qp B u x)(hi:InP x n i):Qp B (qIV u n i (B n i)) (qIV x n i v):=⟨(qIm.trans h.1).trans qIm.symm,fun m j=>by
 rw[qJm (hi.sh h.1),qJm hi]
 by_cases e:m=n/\j=i
 ·right;rw[if_pos e,e.1,e.2]
 ·rw[if_neg e,if_neg e];exact h.2 m j⟩
theorem Qp.bwd{n i:Nat}{v:Int}(h:Qp B u (qIV x n i v))(hi:InP x n i):Qp B (qIV u n i (B n i)) x:=by
 have hs:Sh u x:=h.1.trans qIm
 refine⟨qIm.trans hs,fun m j=>?_⟩
 have h2:=h.2 m j
 rw[qJm hi]at h2
 rw[qJm (hi.sh hs)]
 by_cases e:m=n/\j=i
 ·right;rw[if_pos e,e.1,e.2]
 ·rw[if_neg e]
  rw[if_neg e]at h2
  exact h2
theorem qJu{α:Type}{l l':List α}{i:Nat}{a:α}:(l++l').getD i a=if i<l.length then l.getD i a else l'.getD (i-l.length) a:=by
 rw[List.getD_eq_getElem?_getD,List.getD_eq_getElem?_getD,List.getD_eq_getElem?_getD]
 split
 ·rename_i h;rw[List.getElem?_append_left h]
 ·rename_i h;rw[List.getElem?_append_right (by omega)]
theorem Qp.app{n:Int×List Int}(h:Qp B u x):Qp B (u.1,u.2++[n]) (x.1,x.2++[n]):=⟨⟨h.1.1,by simp[h.1.2]⟩,fun m j=>by
 cases m with
 | zero=>exact h.2 0 j
 | succ m =>
  rw[qFr,qFr]
  show ((u.2++[n]).getD m _).2.getD j 0=((x.2++[n]).getD m _).2.getD j 0∨_
  rw[qJu,qJu,h.1.len]
  split
  ·have:=h.2 (m+1) j
   rw[qFr,qFr]at this
   rcases this with h1|h1
   ·exact .inl h1
   ·exact .inr h1
  ·exact .inl rfl⟩
theorem Qp.cut{n:Int×List Int}(h:Qp B u (x.1,x.2++[n])):Qp B (u.1,u.2.take x.2.length) x:=by
 have hl:=h.1.len
 have hl:u.2.length=x.2.length+1:=by rw[hl];simp
 refine⟨⟨h.1.1,?_⟩,fun m j=>?_⟩
 ·have:=congrArg (List.take x.2.length) h.1.2
  simpa [List.map_take]using this
 ·cases m with
  | zero=>exact h.2 0 j
  | succ m =>
   rw[qFr,qFr]
   show ((u.2.take x.2.length).getD m _).2.getD j 0=_∨_
   have h2:=h.2 (m+1) j
   rw[qFr,qFr]at h2
   have h2:(u.2.getD m (0,[])).2.getD j 0=((x.2++[n]).getD m (0,[])).2.getD j 0∨_:=h2
   by_cases hm:m<x.2.length
   ·have e:(u.2.take x.2.length).getD m (0,[])=u.2.getD m (0,[]):=by
     rw[List.getD_eq_getElem?_getD,List.getElem?_take,if_pos hm,<- List.getD_eq_getElem?_getD]
    rw[e]
    rw[qJu,if_pos hm]at h2
    rcases h2 with h2|h2
    ·exact .inl h2
    ·exact .inr h2
   ·left
    have e1:(u.2.take x.2.length).getD m (0,[])=(0,[]):=by
     rw[List.getD_eq_getElem?_getD,List.getElem?_take,if_neg hm];rfl
    have e2:x.2.getD m (0,[])=(0,[]):=by
     rw[List.getD_eq_getElem?_getD,List.getElem?_eq_none (by omega)];rfl
    rw[e1,e2]
end
def SzOk(d:Ds)(a:Gm):Prop:=∀(k:Nat) t f,a.2[k]?=some (t,f)->f.length=(qAn d t).length
section
variable{d:Ds}{b a x y:Gm}{l:List (Int×Int×Int)}
theorem Tra.shape(h:Tra x l y):∀(k:Nat) t f,x.2[k]?=some (t,f)->∃f',y.2[k]?=some (t,f')/\f'.length=f.length:=by
 induction h with
 | nil=>exact fun k t f h=>⟨f,h,rfl⟩
 | rd _ ih=>exact ih
 | wg _ _ ih=>exact ih
 | @wf g ns y l k i ty v f hk hi _ ih =>
  intro m t g' hm
  by_cases e:m=k
  ·subst e
   have hm:ns[m]?=some (t,g'):=hm
   rw[hk]at hm;cases hm
   obtain⟨f',h1,h2⟩:=ih m ty (f.set i v) (by show (ns.set m _)[m]?=_;rw[List.getElem?_set_self (List.getElem?_eq_some_iff.1 hk).1])
   exact⟨f',h1,by rw[h2,List.length_set]⟩
  ·exact ih m t g' (by show (ns.set k _)[m]?=_;rw[List.getElem?_set_ne (Ne.symm e)];exact hm)
 | @al g ns y l ty n _ ih =>
  intro m t g' hm
  have hm:ns[m]?=some (t,g'):=hm
  exact ih m t g' (by show (ns++[_])[m]?=_;rw[List.getElem?_append_left (List.getElem?_eq_some_iff.1 hm).1];exact hm)
theorem Tra.glen(h:Tra x l y):y.1.length=x.1.length:=by
 induction h with
 | nil=>rfl
 | rd _ ih=>exact ih
 | wg _ _ ih=>rw[ih,List.length_set]
 | wf _ _ _ ih=>exact ih
 | al _ ih=>exact ih
theorem Tra.inP(h:Tra x l y){n i:Nat}(k:InP x n i):InP y n i:=by
 rcases k with⟨rfl,k⟩|⟨k,t,f,rfl,h1,h2⟩
 ·exact .inl ⟨rfl,by rw[h.glen];exact k⟩
 ·obtain⟨f',e1,e2⟩:=h.shape k t f h1
  exact .inr ⟨k,t,f',rfl,e1,by omega⟩
theorem Tra.at_(h:Tra x l y):∀t∈l,t.1=1∨(t.1=2/\∃n i:Nat,t.2.1=n/\t.2.2=i/\InP y n i/\(x.2.length<n∨InP x n i))∨(t.1=3/\∃(n:Nat) (f:List Int),t.2.1=n+1/\y.2[n]?=some (t.2.2,f)):=by
 induction h with
 | nil=>intro t ht;cases ht
 | rd _ ih =>
  intro t ht
  rcases List.mem_cons.1 ht with rfl|ht
  ·exact .inl rfl
  ·exact ih t ht
 | @wg g ns y l i v hi h ih =>
  intro t ht
  rcases List.mem_cons.1 ht with rfl|ht
  ·exact .inr (.inl ⟨rfl,0,i,rfl,rfl,h.inP (.inl ⟨rfl,by show i<(g.set i v).length;rw[List.length_set];exact hi⟩),.inr (.inl ⟨rfl,hi⟩)⟩)
  ·rcases ih t ht with k|⟨k,n,j,e1,e2,h1,h2⟩|k
   ·exact .inl k
   ·refine .inr (.inl ⟨k,n,j,e1,e2,h1,h2.imp id fun h2=>?_⟩)
    rcases h2 with⟨e0,h3⟩|h3
    ·exact .inl ⟨e0,by have:j<(g.set i v).length:=h3;rw[List.length_set]at this;exact this⟩
    ·exact .inr h3
   ·exact .inr (.inr k)
 | @wf g ns y l k i ty v f hk hi h ih =>
  have hkl:=(List.getElem?_eq_some_iff.1 hk).1
  intro t ht
  rcases List.mem_cons.1 ht with rfl|ht
  ·refine .inr (.inl ⟨rfl,k+1,i,rfl,rfl,h.inP (.inr ⟨k,ty,f.set i v,rfl,?_,by rw[List.length_set];exact hi⟩),.inr (.inr ⟨k,ty,f,rfl,hk,hi⟩)⟩)
   show (ns.set k _)[k]?=_
   rw[List.getElem?_set_self hkl]
  ·rcases ih t ht with q|⟨q,n,j,e1,e2,h1,h2⟩|q
   ·exact .inl q
   ·refine .inr (.inl ⟨q,n,j,e1,e2,h1,h2.imp (fun h2=>?_) fun h2=>?_⟩)
    ·have:(ns.set k (ty,f.set i v)).length<n:=h2
     rw[List.length_set]at this;exact this
    ·rcases h2 with h2|⟨m,t',f',e,h3,h4⟩
     ·exact .inl h2
     ·by_cases hm:m=k
      ·subst hm
       have h3:(ns.set m (ty,f.set i v))[m]?=_:=h3
       rw[List.getElem?_set_self hkl]at h3
       cases h3
       exact .inr ⟨m,ty,f,e,hk,by rw[List.length_set]at h4;exact h4⟩
      ·have h3:(ns.set k (ty,f.set i v))[m]?=_:=h3
       rw[List.getElem?_set_ne (Ne.symm hm)]at h3
       exact .inr ⟨m,t',f',e,h3,h4⟩
   ·exact .inr (.inr q)
 | @al g ns y l ty n h ih =>
  intro t ht
  rcases List.mem_cons.1 ht with rfl|ht
  ·obtain⟨f',h1,-⟩:=h.shape ns.length ty (List.replicate n 0) (by show (ns++[_])[ns.length]?=_;rw[List.getElem?_concat_length])
   exact .inr (.inr ⟨rfl,ns.length,f',rfl,h1⟩)
  ·rcases ih t ht with q|⟨q,m,j,e1,e2,h1,h2⟩|q
   ·exact .inl q
   ·refine .inr (.inl ⟨q,m,j,e1,e2,h1,?_⟩)
    rcases h2 with h2|h2|⟨p,t',f',e,h3,h4⟩
    ·left
     have h2:(ns++[(ty,List.replicate n 0)]).length<m:=h2
     rw[List.length_append]at h2
     show ns.length<m
     omega
    ·exact .inr (.inl h2)
    ·have h3:(ns++[(ty,List.replicate n 0)])[p]?=_:=h3
     by_cases hp:p<ns.length
     ·rw[List.getElem?_append_left hp]at h3
      exact .inr (.inr ⟨p,t',f',e,h3,h4⟩)
     ·left
      show ns.length<m
      omega
   ·exact .inr (.inr q)
inductive Chn (f:Gm->En->Gm) (ok:Gm->En->Prop):Gm->List En->Gm->Prop where
 | nil (u:Gm):Chn f ok u [] u
 | cons {u x:Gm} {e:En} {l:List En} (h:ok u e) (k:Chn f ok (f u e) l x):Chn f ok u (e::l) x
theorem Chn.app{f:Gm->En->Gm}{ok:Gm->En->Prop}{u w z:Gm}{m n:List En}(h:Chn f ok u m w)(k:Chn f ok w n z):Chn f ok u (m++n) z:=by
 induction h with
 | nil=>exact k
 | cons h _ ih=>exact .cons h (ih k)
def plcP(u:Gm)(e:En):Prop:=∃n i:Nat,e.node=n/\e.field=i/\InP u n i
def redoK(u:Gm)(e:En):Prop:=(e.al=true/\(∃n:Nat,e.size=n/\n<=12)/\u.2.length<4096)∨(e.al=false/\plcP u e)
def undoK(u:Gm)(e:En):Prop:=(e.al=true/\∃k:Nat,e.node=k+1/\k<=u.2.length)∨(e.al=false/\plcP u e)
theorem redo_run(hs:SzOk d a)(hL:∀t,(qAn d t).length<=12)(hn:a.2.length<=4096)(h:Tra x l a):∀u,Qp (qGC a) u x->Chn redo1 redoK u (qBD d b a l) a:=by
 induction h with
 | nil=>exact fun u hu=>hu.eq ▸ .nil _
 | rd _ ih=>exact fun u hu=>ih hs hn u hu
 | @wg g ns y l i v hi _ ih =>
  intro u hu
  exact .cons (.inr ⟨rfl,0,i,rfl,rfl,.inl ⟨rfl,by rw[hu.1.1];exact hi⟩⟩) (ih hs hn (qIV u 0 i (qGC y 0 i)) (hu.fwd (n:=0) (v:=v) (.inl ⟨rfl,hi⟩)))
 | @wf g ns y l k i ty v f hk hi _ ih =>
  intro u hu
  have hin:InP (g,ns) (k+1) i:=.inr ⟨k,ty,f,rfl,hk,hi⟩
  have h1:=hu.fwd (n:=k+1) (i:=i) (v:=v) hin
  rw[set_n (x:=(g,ns)) hk]at h1
  have:=ih hs hn _ h1
  refine .cons (.inr ⟨rfl,k+1,i,rfl,rfl,hin.sh hu.1⟩) ?_
  show Chn redo1 redoK (qIV u ((k:Int)+1).toNat ((i:Int)).toNat (qGC y ((k:Int)+1).toNat ((i:Int)).toNat)) (qBD d b y l) y
  rw[show ((k:Int)+1).toNat=k+1 by omega,show ((i:Int)).toNat=i by omega]
  exact this
 | @al g ns y l ty n ht ih =>
  intro u hu
  obtain⟨f',h1,h2⟩:=ht.shape ns.length ty (List.replicate n 0) (by show (ns++[_])[ns.length]?=_;rw[List.getElem?_concat_length])
  have h3:=hs _ _ _ h1
  rw[h2,List.length_replicate]at h3
  have:=ih hs hn _ (hu.app (n:=(ty,List.replicate n 0)))
  have hl:=(List.getElem?_eq_some_iff.1 h1).1
  have hul:u.2.length=ns.length:=hu.1.len
  refine .cons (.inl ⟨rfl,⟨_,rfl,hL ty⟩,by omega⟩) ?_
  show Chn redo1 redoK (u.1,u.2++[(ty,List.replicate ((qAn d ty).length:Int).toNat 0)]) (qBD d b y l) y
  rw[Int.toNat_natCast,<- h3];exact this
theorem redo_all(hs:SzOk d a)(hL:∀t,(qAn d t).length<=12)(hn:a.2.length<=4096)(h:Tra b l a):Chn redo1 redoK b (qBD d b a l) a:=redo_run hs hL hn h b ⟨Sh.refl b,fun _ _=>.inl rfl⟩
theorem undo_run(h:Tra x l a):∀u,Qp (qGC b) u a->∃w,Chn qHS undoK u (qBD d b a l).reverse w/\Qp (qGC b) w x:=by
 induction h with
 | nil=>exact fun u hu=>⟨u,.nil _,hu⟩
 | rd _ ih=>exact fun u hu=>ih u hu
 | @wg g ns y l i v hi _ ih =>
  intro u hu
  obtain⟨w,h0,h1⟩:=ih u hu
  unfold qBD at h0 ⊢
  rw[List.flatMap_cons,List.reverse_append]
  have hw:Sh w (g,ns):=h1.1.trans (qIm (x:=(g,ns)) (n:=0) (i:=i) (v:=v))
  exact⟨_,h0.app (.cons (.inr ⟨rfl,0,i,rfl,rfl,.inl ⟨rfl,by rw[hw.1];exact hi⟩⟩) (.nil _)),Qp.bwd (x:=(g,ns)) (n:=0) (i:=i) (v:=v) h1 (.inl ⟨rfl,hi⟩)⟩
 | @wf g ns y l k i ty v f hk hi _ ih =>
  intro u hu
  have hin:InP (g,ns) (k+1) i:=.inr ⟨k,ty,f,rfl,hk,hi⟩
  obtain⟨w,h0,h1⟩:=ih u hu
  unfold qBD at h0 ⊢
  rw[List.flatMap_cons,List.reverse_append]
  rw[<- set_n (x:=(g,ns)) hk]at h1
  have h2:=h1.bwd hin
  refine⟨_,h0.app (.cons (.inr ⟨rfl,k+1,i,rfl,rfl,hin.sh (h1.1.trans qIm)⟩) (.nil _)),?_⟩
  show Qp (qGC b) (qIV _ ((k:Int)+1).toNat ((i:Int)).toNat (qGC b ((k:Int)+1).toNat ((i:Int)).toNat)) (g,ns)
  rw[show ((k:Int)+1).toNat=k+1 by omega,show ((i:Int)).toNat=i by omega]
  exact h2
 | @al g ns y l ty n ht ih =>
  intro u hu
  obtain⟨w,h0,h1⟩:=ih u hu
  unfold qBD at h0 ⊢
  rw[List.flatMap_cons,List.reverse_append]
  have h2:=Qp.cut (x:=(g,ns)) h1
  have hwl:=h1.1.len
  rw[List.length_append]at hwl
  refine⟨_,h0.app (.cons (.inl ⟨rfl,ns.length,rfl,by omega⟩) (.nil _)),?_⟩
  show Qp (qGC b) (_,List.take ((ns.length:Int)+1-1).toNat _) (g,ns)
  rw[show ((ns.length:Int)+1-1).toNat=ns.length by omega]
  exact h2
theorem undo_all(h:Tra b l a):Chn qHS undoK a (qBD d b a l).reverse b:=by
 obtain⟨w,h1,h2⟩:=undo_run (d:=d) (b:=b) h a ⟨Sh.refl a,fun _ _=>.inl rfl⟩
 rw[h2.eq]at h1;exact h1
theorem ents_len(h:Tra x l y)(b a:Gm):(qBD d b a l).length=(l.filter fun t=>decide (t.1≠1)).length:=by
 have key:∀t∈l,(qIa d b a t).length=if t.1≠1 then 1 else 0:=fun t ht=>by
  rcases h.at_ t ht with k|⟨k,-⟩|⟨k,-⟩ <;> unfold qIa <;> rw[k] <;> rfl
 clear h
 unfold qBD
 induction l with
 | nil=>rfl
 | cons t l ih =>
  rw[List.flatMap_cons,List.length_append,ih fun t ht=>key t (List.mem_cons_of_mem _ ht),key t List.mem_cons_self,List.filter_cons]
  by_cases hk:t.1=1
  ·simp[hk]
  ·simp[hk];omega
end
end Go.Proofs
namespace Go.Proofs
open Go Go.Sx
mutual
def eEr:E->E | .mk o n s _ k=>.mk o n s qAv (qEq k)
def qEq:List E->List E | []=>[] | x::xs=>eEr x::qEq xs
end
mutual
def sEr:S->S | .mk o s _ es _ ls _ xs=>.mk o s qAv (qEq es) qAv (qEV ls) qAv (qEV xs)
def qEV:List S->List S | []=>[] | x::xs=>sEr x::qEV xs
end
def tEr(t:Ty):Ty:=⟨t.name,qAv,t.fields⟩
def pEr(p:Pr):Pr:=⟨p.name,qAv,p.params,p.result,qAv,p.locals,qAv,qEV p.body⟩
def dEr(d:Ds):Ds:=⟨d.name,qAv,d.types.map tEr,qAv,d.globals,qAv,d.procs.map pEr,qAv,[],qAv,[],qAv,[],qAv,[]⟩
theorem qCU:∀l:List E,qEq l=l.map eEr
 | []=>by unfold qEq;rfl
 | x::xs=>by unfold qEq;rw[qCU xs];rfl
theorem qCP:∀l:List S,qEV l=l.map sEr
 | []=>by unfold qEV;rfl
 | x::xs=>by unfold qEV;rw[qCP xs];rfl
theorem eErs_len(l:List E):(qEq l).length=l.length:=by rw[qCU,List.length_map]
theorem sErs_len(l:List S):(qEV l).length=l.length:=by rw[qCP,List.length_map]
mutual
theorem okE_er:∀(k:Int) (e:E),okE k (eEr e)=okE k e
 | k,.mk o n s _ l=>by unfold eEr okE;rw[eErs_len,okEs_er]
theorem okEs_er:∀(k:Int) (l:List E),okEs k (qEq l)=okEs k l
 | _,[]=>by unfold qEq;rfl
 | k,x::xs=>by unfold qEq okEs;rw[okE_er,okEs_er]
end
mutual
theorem szE_er:∀e:E,szE (eEr e)=szE e
 | .mk o n s _ l=>by unfold eEr szE;rw[szEs_er]
theorem szEs_er:∀l:List E,szEs (qEq l)=szEs l
 | []=>by unfold qEq;rfl
 | x::xs=>by unfold qEq szEs;rw[szE_er,szEs_er]
end
theorem validE_er(e:E):qAK (eEr e)=qAK e:=by unfold qAK;rw[okE_er,szE_er]
theorem fop_er:∀l:List E,fop (qEq l)=fop l
 | []=>by unfold qEq;rfl
 | .mk o n s _ l::xs=>by unfold qEq eEr fop;rfl
theorem shapeR_er(op:Int)(s:ByteArray)(es:List E)(nl nx:Int):qBM op s (qEq es) nl nx=qBM op s es nl nx:=by
 unfold qBM qFf
 have:(qEq es).all qAK=es.all qAK:=by
  rw[qCU,List.all_map]
  exact congrArg (fun f=>es.all f) (funext fun e=>validE_er e)
 rw[eErs_len,fop_er,this]
mutual
theorem okS_er:∀(k:Int) (e:S),okS k (sEr e)=okS k e
 | k,.mk o s _ es _ ls _ xs=>by unfold sEr okS;rw[sErs_len,sErs_len,shapeR_er,qJf,qJf]
theorem qJf:∀(k:Int) (l:List S),qFI k (qEV l)=qFI k l
 | _,[]=>by unfold qEV;rfl
 | k,x::xs=>by unfold qEV qFI;rw[okS_er,qJf]
end
mutual
theorem szS_er:∀e:S,szS (sEr e)=szS e
 | .mk o s _ es _ ls _ xs=>by unfold sEr szS;rw[qIP,qIP]
theorem qIP:∀l:List S,qDL (qEV l)=qDL l
 | []=>by unfold qEV;rfl
 | x::xs=>by unfold qEV qDL;rw[szS_er,qIP]
end
theorem qFD{α β:Type}{f:α->β}{p:β->Bool}{q:α->Bool}(l:List α)(h:∀x,p (f x)=q x):(l.map f).all p=l.all q:=by
 rw[List.all_map];exact congrArg (fun g=>l.all g) (funext h)
theorem qJI{α β:Type}{f:α->β}{p:β->Bool}{q:α->Bool}(l:List α)(h:∀x,p (f x)=q x):(l.map f).any p=l.any q:=by
 rw[List.any_map];exact congrArg (fun g=>l.any g) (funext h)
theorem idx_map{α β:Type}{f:α->β}{p:β->Bool}{q:α->Bool}(l:List α)(h:∀x,p (f x)=q x):idxI p (l.map f)=idxI q l:=by
 unfold idxI
 have e:p ∘ f=q:=funext h
 rw[List.findIdx?_map,e]
theorem find_map'{α β:Type}{f:α->β}{p:β->Bool}{q:α->Bool}(l:List α)(h:∀x,p (f x)=q x):(l.map f).find? p=(l.find? q).map f:=by
 rw[List.find?_map]
 have e:p ∘ f=q:=funext h
 rw[e]
theorem qDZ{α β γ:Type}{f:α->β}{p:Nat->β->Option γ}{q:Nat->α->Option γ}:∀(l:List α) (i:Nat),(∀j x,p j (f x)=q j x)->qAi p i (l.map f)=qAi q i l
 | [],_,_=>rfl
 | x::l,i,h=>by
  unfold List.map qAi
  rw[h,qDZ l (i+1) h]
theorem tyB_er(t:Ty):tyB (tEr t)=tyB t:=rfl
theorem prB_er(p:Pr):prB (pEr p)=prB p:=by
 unfold prB qEI
 show (qAP p.name&&qDI p.params 6&&qDI p.locals 12&&(decide (p.result=qAp [])||typB p.result)&&decide (qFI 1 (qEV p.body)=true/\qDL (qEV p.body)<=200))=_
 rw[qJf,qIP]
section
variable(d:Ds)
theorem valid_er(h:qAI d=true):qAI (dEr d)=true:=by
 unfold qAI at h ⊢
 simp only[Bool.and_eq_true,decide_eq_true_eq]at h ⊢
 refine⟨⟨⟨⟨⟨⟨⟨h.1.1.1.1.1.1.1,?_⟩,h.1.1.1.1.1.2⟩,?_⟩,rfl⟩,?_⟩,?_⟩,rfl⟩
 ·have:=h.1.1.1.1.1.1.2
  show ((d.types.map tEr).length:Int)<=12
  rw[List.length_map];exact this
 ·have:=h.1.1.1.1.2
  show ((d.procs.map pEr).length:Int)<=40
  rw[List.length_map];exact this
 ·show (d.types.map tEr).all tyB=true
  rw[qFD _ tyB_er];exact h.1.1.2
 ·show (d.procs.map pEr).all prB=true
  rw[qFD _ prB_er];exact h.1.2
theorem valid_re(h:qAI (dEr d)=true)(h1:d.measures=[])(h2:d.invs=[])(h3:d.pots=[])(h4:d.bounds=[]):qAI d=true:=by
 unfold qAI at h ⊢
 simp only[Bool.and_eq_true,decide_eq_true_eq]at h ⊢
 refine⟨⟨⟨⟨⟨⟨⟨h.1.1.1.1.1.1.1,?_⟩,h.1.1.1.1.1.2⟩,?_⟩,?_⟩,?_⟩,?_⟩,?_⟩
 ·have:=h.1.1.1.1.1.1.2
  rw[show ((dEr d).types.length:Int)=(d.types.length:Int) by show ((d.types.map tEr).length:Int)=_;rw[List.length_map]]at this
  exact this
 ·have:=h.1.1.1.1.2
  rw[show ((dEr d).procs.length:Int)=(d.procs.length:Int) by show ((d.procs.map pEr).length:Int)=_;rw[List.length_map]]at this
  exact this
 ·unfold lensB;rw[h1,h2,h3,h4];rfl
 ·have:=h.1.1.2
  rw[show (dEr d).types=d.types.map tEr from rfl,qFD _ tyB_er]at this;exact this
 ·have:=h.1.2
  rw[show (dEr d).procs=d.procs.map pEr from rfl,qFD _ prB_er]at this;exact this
 ·unfold formB;rw[h1,h2,h3,h4];rfl
theorem qHx(s:ByteArray):qBf (dEr d) s=qBf d s:=qJI (f:=tEr) _ fun _=>rfl
theorem qJp(s:ByteArray):qBn (dEr d) s=qBn d s:=by unfold qBn;rw[qHx]
theorem fits_er(a b:ByteArray):qDH (dEr d) a b=qDH d a b:=by unfold qDH;rw[qHx]
theorem tyOf_er(s:ByteArray):qIh (dEr d) s=(qIh d s).map tEr:=find_map' (f:=tEr) _ fun _=>rfl
theorem prOf_er(s:ByteArray):qHj (dEr d) s=(qHj d s).map pEr:=find_map' (f:=pEr) _ fun _=>rfl
theorem fieldT_er(t n:ByteArray):qBS (dEr d) t n=qBS d t n:=by
 unfold qBS
 rw[tyOf_er]
 cases qIh d t <;> rfl
theorem fitAll_er:∀(l:List ByteArray) (fs:List Fld),qCq (dEr d) l fs=qCq d l fs
 | a::l,f::fs=>by unfold qCq;rw[fits_er,fitAll_er]
 | [],_=>by simp[qCq]
 | _::_,[]=>by simp[qCq]
theorem callT_er(n:ByteArray)(l:List ByteArray):qGc (dEr d) n l=qGc d n l:=by
 unfold qGc
 rw[prOf_er]
 cases qHj d n with
 | none=>rfl
 | some p =>
  show (if l.length≠p.params.length then _ else if qCq (dEr d) l p.params=true then _ else _)=_
  rw[fitAll_er];rfl
theorem nodeT_er{sc:Sc}(hb:sc.body=true)(op:Int)(s:ByteArray)(l:List ByteArray):qFY (dEr d) sc op s l=qFY d sc op s l:=by
 unfold qFY callE
 rw[if_pos hb,if_pos hb]
 simp only[fieldT_er,qHx,callT_er,fits_er]
mutual
theorem exprT_er{sc:Sc}(hb:sc.body=true):∀e:E,qAl (dEr d) sc (eEr e)=qAl d sc e
 | .mk o n s _ k=>by unfold eEr qAl;rw[qFj hb,nodeT_er d hb]
theorem qFj{sc:Sc}(hb:sc.body=true):∀(acc:List ByteArray) (l:List E),partsT (dEr d) sc acc (qEq l)=partsT d sc acc l
 | _,[]=>by unfold qEq partsT;rfl
 | acc,x::xs=>by unfold qEq partsT;rw[exprT_er hb,qFj hb]
end
theorem stmtT_er{sc:Sc}(hb:sc.body=true)(r:ByteArray)(op:Int)(s:ByteArray)(es:List E):qFc (dEr d) sc r op s (qEq es)=qFc d sc r op s es:=by
 unfold qFc
 rw[qFj d hb]
 simp only[fits_er,fieldT_er]
 congr 1
 match es with
 | []=>unfold qEq;rfl
 | .mk o n s _ k::es =>
  unfold qEq eEr
  simp only[E.k,E.s,qFj d hb,callT_er]
  rfl
mutual
theorem stT_er{sc:Sc}(hb:sc.body=true)(r:ByteArray):∀(n:Int) (e:S),stT (dEr d) sc r n (sEr e)=stT d sc r n e
 | n,.mk o s _ es _ ls _ xs=>by
  unfold sEr stT
  rw[stmtT_er d hb,qIR hb r (n+1) ls,qIR hb r _ xs]
theorem qIR{sc:Sc}(hb:sc.body=true)(r:ByteArray):∀(n:Int) (l:List S),qBL (dEr d) sc r n (qEV l)=qBL d sc r n l
 | _,[]=>by unfold qEV qBL;rfl
 | n,x::xs=>by unfold qEV qBL;rw[stT_er hb,qIR hb]
end
theorem oneT_er(l:List Fld)(i:Nat)(f:Fld):qFH (dEr d) l i f=qFH d l i f:=by unfold qFH;rw[qJp]
theorem declT_er(l:List Fld):qDa (dEr d) l=qDa d l:=by
 unfold qDa
 simp only[oneT_er]
theorem types_er:qGi (dEr d)=qGi d:=by
 unfold qGi
 congr 1
 ·unfold types1
  refine qDZ (f:=tEr) d.types 0 fun j x=>?_
  rw[show (dEr d).types=d.types.map tEr from rfl,<- List.map_take,qJI (f:=tEr) (q:=fun g=>decide (g.name=x.name)) _ fun _=>rfl]
  rfl
 congr 1
 ·unfold types2
  refine qDZ (f:=tEr) d.types 0 fun j x=>?_
  show (if qDa (dEr d) x.fields≠0 then some (x.name,(-1:Int),qDa (dEr d) x.fields) else none)=_
  rw[declT_er]
 ·unfold types3
  simp only[oneT_er]
  rfl
theorem heads_er:qEC (dEr d)=qEC d:=by
 unfold qEC
 refine qDZ (f:=pEr) d.procs 0 fun j x=>?_
 rw[show (dEr d).procs=d.procs.map pEr from rfl,<- List.map_take,qJI (f:=pEr) (q:=fun g=>decide (g.name=x.name)) _ fun _=>rfl,declT_er,qJp]
 rfl
theorem bodies_er:qCo (dEr d)=qCo d:=by
 unfold qCo
 refine qDZ (f:=pEr) d.procs 0 fun j x=>?_
 show (if (qBL (dEr d) (qAh d x) x.result 0 (qEV x.body)).2≠0 then some (x.name,(qBL (dEr d) (qAh d x) x.result 0 (qEV x.body)).1,(qBL (dEr d) (qAh d x) x.result 0 (qEV x.body)).2) else none)=_
 rw[qIR d rfl]
theorem qCS{α:Type}{a b:Option α}:a.or b=none↔a=none/\b=none:=by cases a <;> simp
theorem chk_er(h:qHK d=none):qHK (dEr d)=none:=by
 unfold qHK at h ⊢
 rw[qCS,qCS,qCS,qCS]at h
 rw[types_er,heads_er,bodies_er,h.1,h.2.1,h.2.2.2.1]
 rfl
theorem chk_re(h:qHK (dEr d)=none)(h1:d.measures=[])(h2:d.invs=[])(h3:d.pots=[])(h4:d.bounds=[]):qHK d=none:=by
 unfold qHK at h ⊢
 rw[qCS,qCS,qCS,qCS,types_er,heads_er,bodies_er]at h
 rw[h.1,h.2.1,h.2.2.2.1]
 have e1:qEO d=none:=by unfold qEO form1 form2 form3 form4;rw[h1,h2,h3,h4];rfl
 have e2:qHE d=none:=by unfold qHE exp1 exp2 exp3 exp4;rw[h1,h2,h3,h4];rfl
 rw[e1,e2];rfl
theorem idxT_er(s:ByteArray):qDk (dEr d) s=qDk d s:=idx_map (f:=tEr) _ fun _=>rfl
theorem qDl(t:Int):qAn (dEr d) t=qAn d t:=by
 unfold qAn
 rw[show (dEr d).types=d.types.map tEr from rfl,List.getElem?_map,Option.map_map];rfl
theorem right_er(m:Mm)(t:ByteArray)(v:Int):qAr (dEr d) m t v=qAr d m t v:=by unfold qAr;rw[idxT_er]
theorem values_er(m:Mm)(l:List Fld)(vs:List Int):qAf (dEr d) m l vs=qAf d m l vs:=by unfold qAf;simp only[right_er]
theorem typed_er(l:List Fld):qBJ (dEr d) l=qBJ d l:=by unfold qBJ;simp only[qJp]
theorem has_er:(qBJ (dEr d) (dEr d).globals&&allI (fun i t=>decide (qDk (dEr d) t.name=(i:Int))&&qBJ (dEr d) t.fields) (dEr d).types)=(qBJ d d.globals&&allI (fun i t=>decide (qDk d t.name=(i:Int))&&qBJ d t.fields) d.types):=by
 simp only[idxT_er,typed_er]
 congr 1
 unfold allI
 rw[show (dEr d).types=d.types.map tEr from rfl,List.zipIdx_map]
 exact qFD _ fun _=>rfl
theorem mem_er{d':Ds}(he:dEr d=dEr d')(hv:qAI d'=true){m:Mm}(h:qBI d m=true):qBI d' m=true:=by
 have key:∀x:Ds,qBI x m=(qAI x&&(qBJ (dEr x) (dEr x).globals&&allI (fun i t=>decide (qDk (dEr x) t.name=(i:Int))&&qBJ (dEr x) t.fields) (dEr x).types)&&(decide (m.nodes.length<=4096)&&m.nodes.all (fun n=>decide (0<=n.ty/\n.ty<((dEr x).types.length:Int)))&&qAf (dEr x) m (dEr x).globals m.globals&&m.nodes.all fun n=>qAf (dEr x) m (qAn (dEr x) n.ty) n.f)):=fun x=>by
  rw[has_er]
  simp only[values_er,qDl]
  rw[show (dEr x).types=x.types.map tEr from rfl,List.length_map]
  unfold qBI hasT
  simp only[Bool.and_assoc]
  rfl
 rw[key,<- he]
 rw[key]at h
 simp only[Bool.and_eq_true]at h ⊢
 exact⟨⟨hv,h.1.2⟩,h.2⟩
end
structure qEy (d d':Ds):Prop where
 er:dEr d=dEr d'
 h1:d'.measures=[]
 h2:d'.invs=[]
 h3:d'.pots=[]
 h4:d'.bounds=[]
theorem qAt.same{d d':Ds}{m:Mm}(G:qAt d m)(h:qEy d d'):qAt d' m:=by
 have hv:=valid_re d' (h.er ▸ valid_er d G.valid) h.h1 h.h2 h.h3 h.h4
 exact⟨hv,chk_re d' (h.er ▸ chk_er d G.chk) h.h1 h.h2 h.h3 h.h4,mem_er d h.er hv G.mem⟩
section
variable(d:Ds)
theorem qJe(s:ByteArray):qEj (dEr d) s=qEj d s:=idx_map (f:=pEr) _ fun _=>rfl
theorem cllE_er(m:Mm)(nm:ByteArray)(l:List Int):qDq (dEr d) m nm l=qDq d m nm l:=by
 unfold qDq
 rw[qJe,show (dEr d).procs=d.procs.map pEr from rfl,List.getElem?_map]
 cases d.procs[(qEj d nm).toNat]? with
 | none=>rfl
 | some p =>
  show (if qEj d nm<0 then _ else if l.length=p.params.length then (if qAf (dEr d) m p.params l=true then _ else _) else _)=_
  rw[values_er]
theorem fldX_er(a:Int)(s:ByteArray)(st:St):fldX (dEr d) a s st=fldX d a s st:=by unfold fldX;simp only[qDl]
theorem newX_er(s:ByteArray)(st:St):newX (dEr d) s st=newX d s st:=by unfold newX;simp only[qDl,idxT_er]
theorem putX_er(a v:Int)(s:ByteArray)(st:St):putX (dEr d) a v s st=putX d a v s st:=by unfold putX;simp only[qDl]
theorem intB_er{sc:Sc}(hb:sc.body=true):∀l:List E,intB (dEr d) sc (qEq l)=intB d sc l
 | []=>by unfold qEq;rfl
 | x::xs=>by
  unfold qEq
  show decide ((qAl (dEr d) sc (eEr x)).1=qBb)=decide ((qAl d sc x).1=qBb)
  rw[exprT_er d hb]
theorem combX_er(C:Cf)(p:Pr)(vals:List Int)(b:Bool)(op n:Int)(s:ByteArray)(ks:List (St->Rx Int))(st:St):qDb (dEr d) C (pEr p) vals b op n s ks st=qDb d C p vals b op n s ks st:=by
 unfold qDb
 simp only[fldX_er,newX_er,qJe]
 rfl
mutual
theorem evX_er(C:Cf)(p:Pr)(vals:List Int):∀e:E,evX (dEr d) C (pEr p) vals (eEr e)=evX d C p vals e
 | .mk o n s _ k=>by
  unfold eEr evX
  funext st
  rw[combX_er,evXs_er C p vals k]
  show qDb d C p vals (intB (dEr d) (qAh d p) (qEq k)) o n s _ st=_
  rw[intB_er d rfl]
theorem evXs_er(C:Cf)(p:Pr)(vals:List Int):∀l:List E,evXs (dEr d) C (pEr p) vals (qEq l)=evXs d C p vals l
 | []=>by unfold qEq evXs;rfl
 | x::xs=>by unfold qEq evXs;rw[evX_er C p vals x,evXs_er C p vals xs]
end
theorem evX_er'(C:Cf)(p:Pr)(vals:List Int)(e:E)(st:St):evX (dEr d) C (pEr p) vals (eEr e) st=evX d C p vals e st:=congrFun (evX_er d C p vals e) st
theorem getD_er(l:List E)(i:Nat):(qEq l).getD i noE=eEr (l.getD i noE):=by
 rw[qCU,List.getD_eq_getElem?_getD,List.getD_eq_getElem?_getD,List.getElem?_map]
 cases l[i]? with
 | none=>unfold noE;simp[eEr,qEq]
 | some x=>rfl
section
variable{Sn Sn':Sf}(hS:∀c p l vals st,Sn' c (pEr p) (qEV l) vals st=Sn c p l vals st)
include hS
theorem callX_er(c:Nat):qDE (dEr d) Sn' c=qDE d Sn c:=by
 funext i l st
 unfold qDE
 rw[show (dEr d).procs=d.procs.map pEr from rfl,List.getElem?_map]
 cases d.procs[i.toNat]? with
 | none=>rfl
 | some p =>
  show (if 200<=c then _ else (Sn' (c+1) (pEr p) (qEV p.body) _ st).bind _)=_
  rw[hS];rfl
theorem evS_er(c:Nat)(p:Pr)(vals:List Int)(e:E)(st:St):evS (dEr d) Sn' c (pEr p) vals (eEr e) st=evS d Sn c p vals e st:=by
 unfold evS
 rw[callX_er d hS,evX_er']
theorem whX_er(F c:Nat)(p:Pr)(e:E)(b:List S):∀(n:Nat) (vals:List Int) (st:St),whX (dEr d) F Sn' c (pEr p) (eEr e) (qEV b) n vals st=whX d F Sn c p e b n vals st
 | 0,_,_=>rfl
 | n+1,vals,st=>by
  unfold whX
  simp only[evS_er d hS,hS,whX_er F c p e b n]
theorem bodyX_er(F c:Nat)(p:Pr)(n:Nat)(s:S)(vals:List Int)(st:St):bodyX (dEr d) F Sn' c (pEr p) n (sEr s) vals st=bodyX d F Sn c p n s vals st:=by
 match s with
 | .mk o s _ es _ ls _ xs =>
  unfold sEr bodyX
  simp only[S.op,S.s,S.es,S.ls,S.xs,getD_er,evS_er d hS,hS,whX_er d hS,putX_er]
  cases es <;> simp only[qEq,evS_er d hS] <;> rfl
end
theorem stX_er{Sn Sn':Sf}(hS:∀c p l vals st,Sn' c (pEr p) (qEV l) vals st=Sn c p l vals st)(F c:Nat)(p:Pr)(n:Nat)(s:S)(vals:List Int)(st:St):stX (dEr d) F Sn' c (pEr p) n (sEr s) vals st=stX d F Sn c p n s vals st:=by
 unfold stX
 simp only[bodyX_er d hS]
theorem listX_er{f f':S->List Int->St->Rx Rt}(h:∀s vals st,f' (sEr s) vals st=f s vals st):∀(l:List S) (vals:List Int) (st:St),qFs f' (qEV l) vals st=qFs f l vals st
 | [],_,_=>by unfold qEV qFs;rfl
 | s::l,vals,st=>by
  unfold qEV qFs
  rw[h]
  simp only[listX_er h l]
theorem stsX_er(F:Nat):∀(n c:Nat) (p:Pr) (l:List S) (vals:List Int) (st:St),qFb (dEr d) F n c (pEr p) (qEV l) vals st=qFb d F n c p l vals st
 | 0,_,_,_,_,_=>rfl
 | n+1,c,p,l,vals,st=>listX_er (fun s vals st=>stX_er d (stsX_er F n) F c p (n+1) s vals st) l vals st
theorem playX_er(F:Nat)(i:Int)(l:List Int)(st:St):qCw (dEr d) F i l st=qCw d F i l st:=by
 unfold qCw
 rw[callX_er d (stsX_er d F (F+1))]
end
section
variable{d d':Ds}(h:qEy d d')
include h
theorem qEy.play(F:Nat)(i:Int)(l:List Int)(st:St):qCw d' F i l st=qCw d F i l st:=by rw[<- playX_er d,h.er,playX_er]
theorem qEy.cll(m:Mm)(nm:ByteArray)(l:List Int):qDq d' m nm l=qDq d m nm l:=by rw[<- cllE_er d,h.er,cllE_er]
theorem qEy.idx(s:ByteArray):qEj d' s=qEj d s:=by rw[<- qJe d,h.er,qJe]
theorem qEy.fields(t:Int):qAn d' t=qAn d t:=by rw[<- qDl d,h.er,qDl]
end
end Go.Proofs
namespace Go.Proofs
open Go Go.Sx
def qAD(ends:List Nat):Nat->Nat
 | 0=>0
 | i+1=>ends.getD i 0
def partP(log:List En)(ends:List Nat)(i:Nat):List En:=(log.drop (qAD ends i)).take (qAD ends (i+1)-qAD ends i)
def Way(b a:Gm)(l:List En):Prop:=Chn redo1 redoK b l a/\Chn qHS undoK a l.reverse b
structure qGf (Ok:Gm->Prop) (mems:List Gm) (logs:List Nat) (k:Nat) (log:List En) (ends:List Nat):Prop where
 len:mems.length=logs.length+1
 le:k<=logs.length
 elen:ends.length=logs.length
 sum:∀i,i<=ends.length->qAD ends i=(logs.take i).sum
 ll:log.length=qAD ends ends.length
 way:∀i b a,mems[i]?=some b->mems[i+1]?=some a->Way b a (partP log ends i)
 ok:∀y∈mems,Ok y
theorem qIQ{l:List Nat}{i:Nat}(h:i<l.length):(l.take (i+1)).sum=(l.take i).sum+l[i]:=by
 rw[List.take_add_one,List.getElem?_eq_getElem h,List.sum_append]
 rfl
theorem sum_mono(l:List Nat){i j:Nat}(h:i<=j):(l.take i).sum<=(l.take j).sum:=by
 induction j with
 | zero=>rw[show i=0 by omega];exact Nat.le_refl _
 | succ j ih =>
  by_cases e:i=j+1
  ·subst e;exact Nat.le_refl _
  ·refine Nat.le_trans (ih (by omega)) ?_
   by_cases hj:j<l.length
   ·rw[qIQ hj];omega
   ·rw[List.take_of_length_le (by omega),List.take_of_length_le (by omega)];exact Nat.le_refl _
theorem qEo{ends:List Nat}{k i v:Nat}(hk:k<=ends.length)(hi:i<=k):qAD (ends.take k++[v]) i=qAD ends i:=by
 cases i with
 | zero=>rfl
 | succ i =>
  show (ends.take k++[v]).getD i 0=ends.getD i 0
  rw[List.getD_eq_getElem?_getD,List.getD_eq_getElem?_getD,List.getElem?_append_left (by rw[List.length_take];omega),List.getElem?_take,if_pos (by omega)]
theorem qEp{ends:List Nat}{k v:Nat}(hk:k<=ends.length):qAD (ends.take k++[v]) (k+1)=v:=by
 show (ends.take k++[v]).getD k 0=v
 have hl:(ends.take k).length=k:=by rw[List.length_take];omega
 rw[List.getD_eq_getElem?_getD,List.getElem?_append_right (by omega),hl,Nat.sub_self];rfl
section
variable{Ok:Gm->Prop}{mems:List Gm}{logs:List Nat}{k:Nat}{log:List En}{ends:List Nat}
theorem qGf.start{x:Gm}(h:Ok x):qGf Ok [x] [] 0 [] []:=⟨rfl,Nat.le_refl _,rfl,fun i hi=>by cases i <;> rfl,rfl,(fun i b a h1 h2=>by
 rw[List.getElem?_eq_none (by simp)]at h2;cases h2),fun y hy=>by rw[List.mem_singleton.1 hy];exact h⟩
theorem qGf.move(h:qGf Ok mems logs k log ends){j:Nat}(hj:j<=logs.length):qGf Ok mems logs j log ends:=⟨h.len,hj,h.elen,h.sum,h.ll,h.way,h.ok⟩
theorem qGf.mono(h:qGf Ok mems logs k log ends){i j:Nat}(hij:i<=j)(hj:j<=logs.length):qAD ends i<=qAD ends j:=by
 rw[h.sum i (by rw[h.elen];omega),h.sum j (by rw[h.elen];omega)]
 exact sum_mono _ hij
theorem qGf.bound(h:qGf Ok mems logs k log ends){i:Nat}(hi:i<=logs.length):qAD ends i<=log.length:=by
 rw[h.ll,h.elen];exact h.mono hi (Nat.le_refl _)
theorem qGf.get(h:qGf Ok mems logs k log ends){i:Nat}(hi:i<=logs.length):∃x,mems[i]?=some x/\Ok x:=by
 have hl:=h.len
 have e:=List.getElem?_eq_getElem (l:=mems) (i:=i) (by omega)
 exact⟨_,e,h.ok _ (List.getElem_mem _)⟩
theorem qGf.step(h:qGf Ok mems logs k log ends){b a:Gm}{es:List En}(hb:mems[k]?=some b)(hw:Way b a es)(ha:Ok a) :
  qGf Ok (mems.take (k+1)++[a]) (logs.take k++[es.length]) (k+1) (log.take (qAD ends k)++es) (ends.take k++[qAD ends k+es.length]):=by
 have hk:=h.le
 have hl:=h.len
 have he:=h.elen
 have hek:=h.bound hk
 have tl:(logs.take k).length=k:=by rw[List.length_take];omega
 have te:(ends.take k).length=k:=by rw[List.length_take];omega
 have tm:(mems.take (k+1)).length=k+1:=by rw[List.length_take];omega
 have tg:(log.take (qAD ends k)).length=qAD ends k:=by rw[List.length_take];omega
 refine⟨by simp only[List.length_append,tm,tl,List.length_singleton],by simp only[List.length_append,tl,List.length_singleton];omega,by simp only[List.length_append,tl,te,List.length_singleton],fun i hi=>?_,?_,fun i x y hx hy=>?_,fun y hy=>?_⟩
 ·rw[List.length_append,te,List.length_singleton]at hi
  by_cases hik:i<=k
  ·rw[qEo (by omega) hik,h.sum i (by omega),List.take_append_of_le_length (by omega),List.take_take,Nat.min_eq_left hik]
  ·obtain rfl:i=k+1:=by omega
   rw[qEp (by omega),List.take_of_length_le (by rw[List.length_append,tl];exact Nat.le_refl _),List.sum_append,h.sum k (by omega)]
   simp
 ·rw[List.length_append,List.length_append,te,tg,List.length_singleton,qEp (by omega)]
 ·by_cases hik:i<k
  ·rw[List.getElem?_append_left (by omega),List.getElem?_take,if_pos (by omega)]at hx hy
   have:=h.way i x y hx hy
   have e:partP (log.take (qAD ends k)++es) (ends.take k++[qAD ends k+es.length]) i=partP log ends i:=by
    have m1:=h.mono (i:=i) (j:=k) (by omega) hk
    have m2:=h.mono (i:=i+1) (j:=k) (by omega) hk
    have m3:=h.mono (i:=i) (j:=i+1) (by omega) (by omega)
    unfold partP
    rw[qEo (by omega) (by omega),qEo (by omega) (by omega),List.drop_append_of_le_length (by omega),List.drop_take,List.take_append_of_le_length (by rw[List.length_take,List.length_drop];omega),List.take_take,Nat.min_eq_left (by omega)]
   rw[e];exact this
  ·have hyl:=(List.getElem?_eq_some_iff.1 hy).1
   rw[List.length_append,tm,List.length_singleton]at hyl
   obtain rfl:i=k:=by omega
   rw[List.getElem?_append_left (by omega),List.getElem?_take,if_pos (by omega),hb]at hx
   rw[List.getElem?_append_right (by omega),tm,Nat.sub_self]at hy
   cases hx;cases hy
   have e:partP (log.take (qAD ends i)++es) (ends.take i++[qAD ends i+es.length]) i=es:=by
    unfold partP
    rw[qEo (by omega) (Nat.le_refl _),qEp (by omega),List.drop_append_of_le_length (by omega),List.drop_of_length_le (by omega),Nat.add_sub_cancel_left,List.nil_append,List.take_of_length_le (Nat.le_refl _)]
   rw[e];exact hw
 ·rcases List.mem_append.1 hy with hy|hy
  ·exact h.ok y (List.mem_of_mem_take hy)
  ·rw[List.mem_singleton.1 hy];exact ha
end
end Go.Proofs
namespace Go.Proofs
open Go Go.Sx
def gmM(y:Gm):Mm:=⟨qAv,y.1,qAv,y.2.map fun n=>⟨n.1,qAv,n.2⟩⟩
def OkG(d:Ds)(y:Gm):Prop:=qAt d (gmM y)
theorem qFw(y:Gm):(gmM y).plain=y:=by
 unfold Mm.plain gmM
 simp[Function.comp_def]
section
variable{d:Ds}{m:Mm}{y:Gm}
theorem OkG.of(G:qAt d m):OkG d m.plain:=⟨G.valid,G.chk,qDr (qFw _).symm G.mem⟩
theorem OkG.to(G:OkG d y)(h:m.plain=y):qAt d m:=⟨G.valid,G.chk,qDr (by rw[qFw,h]) G.mem⟩
theorem OkG.sizes(G:OkG d y):SzOk d y/\y.2.length<=4096/\∀t,(qAn d t).length<=12:=by
 obtain⟨p1,p2,p3,p4,p5⟩:=qAs G.mem
 have h12:=lens12 G.valid
 refine⟨fun k t f hk=>?_,by have:(y.2.map fun n=>(⟨n.1,qAv,n.2⟩:Nd)).length<=4096:=p2;rwa [List.length_map]at this,fun t=>?_⟩
 ·have hm:(⟨t,qAv,f⟩:Nd)∈(gmM y).nodes:=List.mem_map.2 ⟨(t,f),List.mem_of_getElem? hk,rfl⟩
  exact(qAz.1 (p5 _ hm)).1.symm
 ·unfold qAn
  cases hx:d.types[t.toNat]? with
  | none=>simp
  | some x=>exact h12.2 x (List.mem_of_getElem? hx)
theorem OkG.type(G:OkG d y){k:Nat}{t:Int}{f:List Int}(hk:y.2[k]?=some (t,f)):0<=t/\t<(d.types.length:Int):=by
 obtain⟨p1,p2,p3,p4,p5⟩:=qAs G.mem
 have hm:(⟨t,qAv,f⟩:Nd)∈(gmM y).nodes:=List.mem_map.2 ⟨(t,f),List.mem_of_getElem? hk,rfl⟩
 exact of_decide_eq_true (p3 _ hm)
structure Did (d:Ds) (F:Nat) (b a:Gm) (l:List (Int×Int×Int)):Prop where
 ok:OkG d a
 tra:Tra b l a
 len:l.length<=4000*F
theorem Did.way{F:Nat}{b a:Gm}{l:List (Int×Int×Int)}(h:Did d F b a l):Way b a (qBD d b a l):=by
 obtain⟨h1,h2,h3⟩:=h.ok.sizes
 exact⟨redo_all h1 h3 h2 h.tra,undo_all h.tra⟩
theorem did_play(F:Nat){nm:ByteArray}{args:List Int}(G:qAt d m)(hc:qDq d m nm args=0){r:Rx Int}(hr:r=qCw d F (qEj d nm) args (qFd m)):Did d F m.plain (r.st.g,r.st.ns) r.st.lg:=by
 subst hr
 obtain⟨i,q,hi,hq,hval⟩:=cllE_zero hc
 have H:=play_snd (F:=F) (procs_ok G.valid G.chk) hq (good_st G) (qAg (qDs (qFP m).symm) hval)
 rw[hi]
 obtain⟨l,h1,h2⟩:=H.gr.tr
 have h1:(qCw d F (↑i) args (qFd m)).st.lg=l:=by rw[h1];rfl
 refine⟨H.good,by rw[h1];exact h2,?_⟩
 have h3:=H.gr.w
 have h4:=H.gr.fu (Nat.zero_le _)
 have e1:(qFd m).lg.length=0:=rfl
 have e2:(qFd m).cm=0:=rfl
 have e3:(qFd m).tk=0:=rfl
 omega
end
end Go.Proofs
namespace Go.Proofs
open Go Go.Sx
attribute [local irreducible] Go.Sx.Tri
theorem flat_row{α:Type}{row:α->List Value}{sz:Nat}(hr:∀x,(row x).length=sz){x':α}{j:Nat}{vs:List Value}(hj:j+vs.length<=sz):∀{xs:List α} {i:Nat} {x:α},xs[i]?=some x->row x'=(row x).take j++vs++(row x).drop (j+vs.length)->(xs.set i x').flatMap row=(xs.flatMap row).take (i*sz+j)++vs++(xs.flatMap row).drop (i*sz+j+vs.length)
 | [],_,_,h,_=>by simp at h
 | y::ys,0,x,h,e=>by
  simp only[List.getElem?_cons_zero,Option.some.injEq]at h
  subst h
  have hy:=hr y
  rw[List.set_cons_zero,List.flatMap_cons,List.flatMap_cons,e,Nat.zero_mul,Nat.zero_add,List.take_append_of_le_length (by omega),List.drop_append_of_le_length (by omega)]
  simp only[List.append_assoc]
 | y::ys,i+1,x,h,e=>by
  rw[List.getElem?_cons_succ]at h
  have hy:=hr y
  have e1:(i+1)*sz=sz+i*sz:=by rw[Nat.add_mul];omega
  have t1:∀(L:List Value) (k:Nat),(row y++L).take (sz+k)=row y++L.take k:=fun L k=>by
   rw[List.take_append,List.take_of_length_le (by omega),hy,Nat.add_sub_cancel_left]
  have t2:∀(L:List Value) (k:Nat),(row y++L).drop (sz+k)=L.drop k:=fun L k=>by
   rw[List.drop_append,List.drop_of_length_le (by omega),hy,Nat.add_sub_cancel_left,List.nil_append]
  rw[List.set_cons_succ,List.flatMap_cons,List.flatMap_cons,flat_row hr hj h e,e1,show sz+i*sz+j=sz+(i*sz+j) by omega,show sz+(i*sz+j)+vs.length=sz+(i*sz+j+vs.length) by omega,t1,t2]
  simp only[List.append_assoc]
theorem flat_len'{α:Type}{row:α->List Value}{sz:Nat}(hr:∀x,(row x).length=sz)(xs:List α):(xs.flatMap row).length=xs.length*sz:=by
 induction xs with
 | nil=>simp
 | cons x xs ih=>rw[List.flatMap_cons,List.length_append,ih,hr,List.length_cons,Nat.add_mul];omega
section
variable{α:Type}{row:α->List Value}{sz:Nat}{V0 V V':Mem}{e:TypeId}{s:Sl}{xs:List α}
theorem own_row(hr:∀x,(row x).length=sz)(o:Sx.Own V0 V e sz s (xs.flatMap row)){i j k:Nat}{x x':α}{vs:List Value}(hx:xs[i]?=some x)(hj:j+vs.length<=sz)(hv:vs≠[])(hrow:row x'=(row x).take j++vs++(row x).drop (j+vs.length))(hk:k=i*sz+j){q:Mem->Prop}
  (hq:∀V',Sx.Own V0 V' e sz s ((xs.set i x').flatMap row)->(∀c,¬Blk s c->V' c=V c)->q V'):StT (qAa s.p k) 0 vs V q:=by
 subst hk
 have hv0:0<vs.length:=by cases vs with|nil=>exact absurd rfl hv|cons _ _=>simp
 have hn:s.n=xs.length:=o.n_eq hr (by omega)
 have hi:i<xs.length:=(List.getElem?_eq_some_iff.1 hx).1
 rcases o.cases0 with⟨h1,h2,h3⟩|⟨hc,g,cur,h1,h2,h3,h4,h5,h6,h7⟩
 ·omega
 have hlen:=o.len
 have h8:(i+1)*sz<=s.n*sz:=Nat.mul_le_mul_right _ (by omega)
 have h9:s.n*sz<=s.c*sz:=Nat.mul_le_mul_right _ h4
 rw[Nat.add_mul,Nat.one_mul]at h8
 rw[h1]
 have hL:=flat_row hr hj hx hrow
 have hLl:=flat_len' hr (xs.set i x')
 rw[List.length_set]at hLl
 have key:(cur.toList.take (i*sz+j)++vs++cur.toList.drop (i*sz+j+vs.length)).take (s.n*sz)=(xs.set i x').flatMap row:=by
  rw[hL,<- h7,List.take_take,Nat.min_eq_left (by omega),List.drop_take,List.take_append,List.take_of_length_le (by rw[List.length_append,List.length_take,Array.length_toList];omega)]
  congr 2
  rw[List.length_append,List.length_take,Array.length_toList]
  omega
 refine StT.at2 (off:=i*sz+j) h3 (by omega) (hq _ ⟨o.sub.set h2 _,by rw[hLl,hn],.inr ⟨g,_,h1,h2,Mem.set_same _ _ _,h4,h5,?_,by simpa using key⟩⟩ fun c hc'=>?_)
 ·rw[List.size_toArray,List.length_append,List.length_append,List.length_take,List.length_drop,Array.length_toList,Nat.min_eq_left (by omega)];omega
 ·rw[Mem.set_ne]
  rintro rfl
  exact hc' ⟨hc,h1⟩
theorem own_cut(hr:∀x,(row x).length=sz)(o:Sx.Own V0 V e sz s (xs.flatMap row)){k:Nat}(hk:k<=xs.length)(hsz:0<sz):Sx.Own V0 V e sz ⟨s.p,k,s.c⟩ ((xs.take k).flatMap row):=by
 have hn:s.n=xs.length:=o.n_eq hr hsz
 have hl:=flat_len' hr (xs.take k)
 rw[List.length_take,Nat.min_eq_left hk]at hl
 refine⟨o.sub,hl,?_⟩
 rcases o.cases0 with⟨h1,h2,h3⟩|⟨hc,g,cur,h1,h2,h3,h4,h5,h6,h7⟩
 ·have:xs=[]:=List.eq_nil_of_length_eq_zero (by omega)
  subst this
  exact .inl ⟨by show k=0;simpa using hk,h2,by simp⟩
 ·refine .inr ⟨g,cur,h1,h2,h3,by show k<=s.c;omega,h5,h6,?_⟩
  show cur.toList.take (k*sz)=_
  have e1:k*sz<=s.n*sz:=Nat.mul_le_mul_right _ (by omega)
  have e2:cur.toList.take (k*sz)=(cur.toList.take (s.n*sz)).take (k*sz):=by rw[List.take_take,Nat.min_eq_left e1]
  rw[e2,h7]
  have e3:xs.flatMap row=(xs.take k).flatMap row++(xs.drop k).flatMap row:=by rw[<- List.flatMap_append,List.take_append_drop]
  rw[e3,List.take_append_of_le_length (by omega),List.take_of_length_le (by omega)]
theorem own_grow{vs:List Value}(o:Sx.Own V0 V e sz s vs)(h:V.sub V'):Sx.Own V0 V' e sz s vs:=⟨o.sub.trans h,o.len,by
 rcases o.cases0 with h1|⟨hc,g,cur,h1,h2,h3,h4⟩
 ·exact .inl h1
 ·exact .inr ⟨g,cur,h1,h2,h _ _ h3,h4⟩⟩
end
section
variable{V0 V V1:Mem}{d:Ds}{p F:Nat}{c k:Int}{s:St}
end
section
variable{V0 V V1:Mem}{d:Ds}{p F c q:Nat}{s:St}{pr:Pr}{vals:List Int}
end
section
variable{x y:St->Rx Int}{s s1 s2:St}{acc:List Int}{k:Int}
end
section
variable{V0 W V V1:Mem}{d:Ds}{p F c q:Nat}{s:St}{pr:Pr}{vals:List Int}
end
section
variable{V0 W V V1:Mem}{d:Ds}{p F c q:Nat}{s:St}{pr:Pr}{vals:List Int}
end
section
variable{W V0 V V1 V':Mem}{d:Ds}{p F c q:Nat}{s:St}{pr:Pr}{vals:List Int}
end
section
variable{W V0 V V1 V':Mem}{d:Ds}{p F c q:Nat}{s:St}{pr:Pr}{vals:List Int}
end
section
variable{V0 V:Mem}{d:Ds}{p F:Nat}{s:St}
end
section
variable{V V0:Mem}{d:Ds}{m:Mm}{F:Nat}{nm:ByteArray}{args:List Int}{l:Sl}
theorem good_lens(G:qAt d m):m.globals.length<=2147483648/\m.nodes.length<=4096/\∀n∈m.nodes,n.f.length<=2147483648:=by
 obtain⟨p1,p2,p3,p4,p5⟩:=qAs G.mem
 have h12:=lens12 G.valid
 refine⟨by have:=(qAz.1 p4).1;omega,p2,fun n hn=>?_⟩
 have:=(qAz.1 (p5 n hn)).1
 have hty:=of_decide_eq_true (p3 n hn)
 obtain⟨j,hj⟩:∃j:Nat,n.ty=(j:Int):=⟨n.ty.toNat,by omega⟩
 have hjl:j<d.types.length:=by omega
 have hx:=List.getElem?_eq_getElem hjl
 rw[hj,qBt hx rfl]at this
 have:=h12.2 _ (List.getElem_mem hjl)
 omega
end
end Go.Proofs
