/- The evaluator: functions by their printed meanings, loops, the questions of values as equations, and the road from a law to its row. -/
import Derived.Test.YtmhmcamcenidaaaGreatEv3
import Derived.WalkKit
import Derived.ProofKit
import Derived.OpenShut
import Derived.ChangeOld
import Derived.SizedLaws
import Derived.Carry
import Derived.JoinedOf
import Derived.ChangeBookTie
set_option linter.unusedVariables false
set_option linter.unusedSimpArgs false
/- The tables looked through by the kernel. -/
namespace Go.Ev
def xiv:List Cell→List Value→Bool
 | [],[]=>true
 | .pv (.int k n)::cs,.int k' n'::vs=>decide (k'=k)&&decide (n'=n)&&xiv cs vs
 | .pv (.bool b)::cs,.bool b'::vs=>decide (b'=b)&&xiv cs vs
 | .pv (.str s)::cs,.string s'::vs=>decide (s'=s)&&xiv cs vs
 | .nil _ _::cs,.slice none 0 0::vs=>xiv cs vs
 | _,_=>false
theorem xfF:∀{cs:List Cell} {vs:List Value},xiv cs vs=true→xcd cs vs
 | [],[],_=>rfl
 | .pv (.int k n)::cs,.int k' n'::vs,h=>by
  simp only [xiv,Bool.and_eq_true,decide_eq_true_eq] at h
  obtain ⟨⟨rfl,rfl⟩,h⟩:=h
  exact ⟨vs,rfl,xfF h⟩
 | .pv (.bool b)::cs,.bool b'::vs,h=>by
  simp only [xiv,Bool.and_eq_true,decide_eq_true_eq] at h
  obtain ⟨rfl,h⟩:=h
  exact ⟨vs,rfl,xfF h⟩
 | .pv (.str s)::cs,.string s'::vs,h=>by
  simp only [xiv,Bool.and_eq_true,decide_eq_true_eq] at h
  obtain ⟨rfl,h⟩:=h
  exact ⟨vs,rfl,xfF h⟩
 | .nil _ _::cs,.slice none 0 0::vs,h=>⟨vs,rfl,xfF (by simpa [xiv] using h)⟩
def xr3 (z:Option Cell) (d:TypeDesc):Bool:=match z,d with
 | some (.pv (.int _ _)),.int _=>true
 | some (.pv (.bool _)),.bool=>true
 | some (.pv (.str _)),.string=>true
 | _,_=>false
theorem xqy {z:Option Cell} {d:TypeDesc} (h:xr3 z d=true):xgv z d:=by
 unfold xr3 at h
 split at h
 ·exact ⟨_,rfl⟩
 ·rfl
 ·rfl
 ·cases h
def xru (P:Program) (T:Tab) (t:TypeId) (i:TI):Bool :=
 (match P.info? t with
  | some inf=>decide (inf.size=i.size)&&decide (inf.bytes≤131072)&&(match inf.zero with | some z=>xiv i.zero z.cells.toList | none=>false)
  | none=>false)&&decide (0<i.size)&&decide (i.zero.length=i.size) &&
 (match P.underlying t with
  | some (.struct fs)=>i.agg&&decide (fs.toList.map (fun f=>(f.offset,f.type))=i.flds)&&decide (i.elem=0)&&decide (i.ik=none)&&decide (i.tag≠1)&&decide (i.tag≠3) &&
   (!i.eqk||(!P.eqGuardType P.depth t&&!P.stoodInHeld t&&decide (fs.size=i.size)&&(List.range fs.size).all fun j=>match fs[j]? with
    | some f => decide (f.name ≠ "_") && decide (f.offset = j) && (match P.underlying f.type with | some d => xr3 i.zero[j]? d | none => false)
    | none=>false))
  | some (.array _ _)=>false
  | some d=>!i.agg&&decide (i.flds=[])&&!i.eqk &&
   (match d with | .slice e=>decide (i.elem=0∨i.elem=e) | _=>decide (i.elem=0)) &&
   (match i.ik with | none=>true | some k=>match d with | .int k'=>decide (k'=k) | _=>false) &&
   (match d with | .string=>true | _=>decide (i.tag≠1))&&(match d with | .bool=>true | _=>decide (i.tag≠3))
  | none=>false) &&
 (i.flds.all fun f=>decide (T.sz f.2≠0)) &&
 (decide (i.tag≠2)||(decide (i.elem≠0)&&match P.underlying i.elem with | some (.int .u8)=>true | _=>false))
theorem xpN {P:Program} {T:Tab} {t:TypeId} {i:TI} (h:xru P T t i=true):xeN P T t i:=by
 simp only [xru,Bool.and_eq_true] at h
 obtain ⟨⟨⟨⟨⟨h1,h2⟩,h3⟩,h4⟩,h5⟩,h6⟩:=h
 have hinfo:∃inf,P.info? t=some inf∧inf.size=i.size∧inf.bytes≤131072∧∃z,inf.zero=some z∧xcd i.zero z.cells.toList:=by
  split at h1
  ·rename_i inf hi
   simp only [Bool.and_eq_true,decide_eq_true_eq] at h1
   obtain ⟨⟨a1,a2⟩,a3⟩:=h1
   split at a3
   ·rename_i z hz;exact ⟨inf,hi,a1,a2,z,hz,xfF a3⟩
   ·cases a3
  ·cases h1
 have htag2:i.tag=2→P.underlying i.elem=some (.int .u8)∧i.elem≠0:=by
  intro ht
  simp only [ht,ne_eq,not_true_eq_false,decide_false,Bool.false_or,Bool.and_eq_true,decide_eq_true_eq] at h6
  refine ⟨?_,h6.1⟩
  have h7:=h6.2
  split at h7
  ·rename_i h8;exact h8
  ·cases h7
 have hfsz:∀f∈i.flds,T.sz f.2≠0:=fun f hf=>by
  have:=List.all_eq_true.1 h5 f hf
  simpa using this
 cases hu:P.underlying t with
 | none=>rw [hu] at h4;simp at h4
 | some d =>
  rw [hu] at h4
  cases d with
  | struct fs =>
   simp only [Bool.and_eq_true,decide_eq_true_eq] at h4
   obtain ⟨⟨⟨⟨⟨⟨a1,a2⟩,a3⟩,a4⟩,a5⟩,a6⟩,a7⟩:=h4
   refine ⟨hinfo,of_decide_eq_true h2,of_decide_eq_true h3,fun _=>⟨fs,hu,a2⟩,(fun h=>by rw [a1] at h;cases h),(fun h=>by rw [a1] at h;cases h),hfsz,fun h=>absurd a3 h,(fun k h=>by rw [a4] at h;cases h),fun h=>absurd h a5,htag2,fun h=>absurd h a6,fun h=>?_⟩
   simp only [h,Bool.not_true,Bool.false_or,Bool.and_eq_true,Bool.not_eq_true',decide_eq_true_eq] at a7
   obtain ⟨⟨⟨b1,b2⟩,b3⟩,b4⟩:=a7
   refine ⟨b1,b2,fs,hu,b3,fun j f hj=>?_⟩
   have hlt:j<fs.size:=by
    rcases Nat.lt_or_ge j fs.size with h' | h'
    ·exact h'
    ·simp [Array.getElem?_eq_none h'] at hj
   have:=List.all_eq_true.1 b4 j (List.mem_range.2 hlt)
   simp only [hj,Bool.and_eq_true,decide_eq_true_eq] at this
   obtain ⟨⟨c1,c2⟩,c3⟩:=this
   split at c3
   ·rename_i d hd;exact ⟨c1,c2,d,hd,xqy c3⟩
   ·cases c3
  | array n e=>simp at h4
  | _ =>
   simp only [Bool.and_eq_true,Bool.not_eq_true',decide_eq_true_eq,Bool.true_and,Bool.and_true] at h4
   refine ⟨hinfo,of_decide_eq_true h2,of_decide_eq_true h3,fun h=>?_,fun _=>⟨_,hu,rfl⟩,fun _=>?_,hfsz,fun h=>?_,fun k h=>?_,fun h=>?_,htag2,fun h=>?_,fun h=>?_⟩ <;>
   simp_all
def xws (P:Program) (t:TypeId):Bool:=match P.underlying t with
 | some (.struct _)=>false
 | some (.array _ _)=>false
 | some _=>true
 | none=>false
def xwp (P:Program) (T:Tab):Bool:=(T.ti.all fun x=>xru P T x.1 x.2&&decide (x.1≠0))&&T.fnt.all (xws P)
def xpE (P:Program):List (Nat×(Func×List (Nat×Bool)))→Prop
 | []=>True
 | x :: l => (P.funcs[x.1]? = some x.2.1 ∧ (x.2.1.name == "runtime.NumGoroutine") = false) ∧ xpE P l
theorem xkM {P : Program} : ∀ {l : List (Nat × (Func × List (Nat × Bool)))} {f : Nat} {e : Func × List (Nat × Bool)}, xpE P l → lk l f = some e → P.funcs[f]? = some e.1 ∧ (e.1.name == "runtime.NumGoroutine") = false
 | [],f,e,_,h=>by cases h
 | x::l,f,e,hl,h=>by
  have h':lk ((x.1,x.2)::l) f=some e:=h
  rw [xas] at h'
  split at h'
  ·rename_i hx;injection h' with h';subst h';subst hx;exact hl.1
  ·exact xkM hl.2 h'
theorem xry {P:Program} {T:Tab} (h:xwp P T=true) (hm:P.follows .mixedOrders=true) (hi:xpE P T.inl:=by exact True.intro):xaz P T:=by
 simp only [xwp,Bool.and_eq_true] at h
 obtain ⟨h,hf⟩:=h
 refine ⟨fun t i e=>?_,?_,hm,fun f e h=>xkM hi h,fun t ht=>?_⟩
 rotate_right
 ·have:=List.all_eq_true.1 hf t (by simpa using ht)
  unfold xws at this
  split at this
  ·cases this
  ·cases this
  ·rename_i d h1 h2 hu
   refine ⟨d,hu,?_⟩
   cases d<;>first | rfl | (exact absurd rfl (h1 _)) | (exact absurd rfl (h2 _ _))
  ·cases this
 ·have:=List.all_eq_true.1 h _ (xkH e)
  simp only [Bool.and_eq_true] at this
  exact xpN this.1
 ·cases hz:lk T.ti 0 with
  | none=>rfl
  | some i =>
   have:=List.all_eq_true.1 h _ (xkH hz)
   simp at this
end Go.Ev
/- Loops by their summaries, functions by their printed meanings. -/
namespace Go.Ev
abbrev Sums:=Nat→Fr→(Out→Fr→Prop)→Prop
def xbN:Code→Nat
 | .seq a b=>xbN a+xbN b
 | .cond _ a b=>xbN a+xbN b
 | .block _ a=>xbN a
 | .loop b=>xbN b+1
 | _=>0
theorem xc0:∀c:Code,xbN c=(xbr c).length
 | .seq a b=>by simp [xbN,xbr,xc0 a,xc0 b]
 | .cond _ a b=>by simp [xbN,xbr,xc0 a,xc0 b]
 | .block _ a=>by simp [xbN,xbr,xc0 a]
 | .loop b=>by simp [xbN,xbr,xc0 b]
 | .skip=>rfl
 | .region ..=>rfl
 | .rangeFunc ..=>rfl
 | .exit _=>rfl
 | .scope _=>rfl
 | .label _=>rfl
 | .goto _=>rfl
 | .ret=>rfl
 | .refuse _=>rfl
def sxL (C:Orac) (T:Tab) (keep:List (Nat×Bool)) (S:Sums):Code→Nat→Fr→(Out→Fr→Prop)→Prop
 | .seq a b,i,F,k=>sxL C T keep S a i F fun o F=>match o with
  | .norm=>xiw T.win keep F fun F=>sxL C T keep S b (i+xbN a) F k
  | .ret=>k .ret F
  | .exit i=>k (.exit i) F
 | .cond c a b,i,F,k=>match c with
  | .tmp d=>match lk F.tmps d with
   | some (.one (.kb t))=>if t=true then sxL C T keep S a i F k else sxL C T keep S b (i+xbN a) F k
   | some (.one (.pv p))=>xad p (sxL C T keep S a i (knows F d true) k) (sxL C T keep S b (i+xbN a) (knows F d false) k)
   | _=>False
  | _=>False
 | .block j a,i,F,k=>sxL C T keep S a i F fun o F=>match o with
  | .norm=>k .norm F
  | .ret=>k .ret F
  | .exit j'=>if j'=j then k .norm F else k (.exit j') F
 | .loop b,i,F,k=>match xmS T.wk T.fl keep F with
  | some H=>S i H k
  | none=>False
 | c,_,F,k=>sx C T keep c F k
def trim (ts:List Nat) (F:Fr):Fr:={ F with tmps:=ts.filterMap fun t=>match lk F.tmps t with | some v=>some (t,v) | none=>none }
theorem xlU (tm:List (Nat×TV)):∀{ts:List Nat} {t:Nat} {v:TV},lk (ts.filterMap fun t=>match lk tm t with | some v=>some (t,v) | none=>none) t=some v→lk tm t=some v
 | [],t,v,h=>by cases h
 | u::ts,t,v,h=>by
  cases e:lk tm u with
  | none=>simp only [List.filterMap_cons,e] at h;exact xlU tm h
  | some x =>
   simp only [List.filterMap_cons,e,lk] at h
   split at h
   ·rename_i hu;subst hu;rw [e];exact h
   ·exact xlU tm h
abbrev I (n:Int):PV:=.int .i64 n
abbrev zI:Cell:=.pv (I 0)
abbrev zB:Cell:=.pv (.bool false)
abbrev zS:Cell:=.pv (.str ⟨#[]⟩)
abbrev tI:TI:=⟨false,1,0,8,[],[zI],some .i64,0,false⟩
abbrev tB:TI:=⟨false,1,0,1,[],[zB],none,3,false⟩
abbrev tS:TI:=⟨false,1,0,16,[],[zS],none,1,false⟩
def Tab.moving (T:Tab):Tab:=⟨T.ti,T.sig,true,T.nf,T.fnt,T.fl,T.inl,T.win,T.wk⟩
def Tab.nofl (T:Tab):Tab:=⟨T.ti,T.sig,T.mv,T.nf,T.fnt,[],T.inl,T.win,T.wk⟩
def Tab.wind (T:Tab):Tab:=⟨T.ti,T.sig,T.mv,T.nf,T.fnt,[],T.inl,3,T.wk⟩
def Tab.shr (T:Tab):Tab:=⟨T.ti,T.sig,T.mv,T.nf,T.fnt,T.fl,T.inl,T.win,true⟩
def kk (l:List Nat):List (Nat×Bool):=l.map fun t=>(t,false)
def kts (keep:List (Nat×Bool)):List Nat:=keep.map (·.1)
def xpi:List Cap→List Nat
 | []=>[]
 | .box k::r=>k::xpi r
 | .ro _::r=>xpi r
def xme:Cell→List Nat
 | .own id=>[id]
 | .ptr k _=>[k]
 | .optr id _ _ _=>[id]
 | .fn _ caps=>xpi caps
 | _=>[]
def xuu:TV→List Nat
 | .one c=>xme c
 | .agg cs=>cs.flatMap xme
 | _=>[]
def xm8 (S:List Nat):List (Nat×List Cell)→List Nat
 | []=>[]
 | x::r=>match xkn x.1 S with
  | true=>x.2.flatMap xme++xm8 S r
  | false=>xm8 S r
def xfb {α:Type} (S:List Nat):List (Nat×α)→List (Nat×α)
 | []=>[]
 | x::r=>match xkn x.1 S with
  | true=>x::xfb S r
  | false=>xfb S r
def gcF (F:Fr):Fr :=
 let A:=F.tmps.flatMap (fun x=>xuu x.2)++F.pin
 let B:=A++xm8 A F.boxes
 let S:=B++xm8 B F.boxes
 { F with boxes:=xfb S F.boxes,rows:=xfb S F.rows }
def gcIf (ks:List Nat) (F:Fr):Fr:=match xkn 999999 ks with | true=>gcF F | false=>F
theorem xc2 {α:Type} {S:List Nat}:∀{l:List (Nat×α)} {k:Nat} {v:α},lk (xfb S l) k=some v→lk l k=some v
 | [],k,v,h=>by cases h
 | x::r,k,v,h=>by
  obtain ⟨y,z⟩:=x
  have lkc:∀(m:List (Nat×α)),lk ((y,z)::m) k=if y=k then some z else lk m k:=fun m=>rfl
  rw [xfb] at h
  rw [lkc]
  split at h
  ·rw [lkc] at h
   by_cases hk:y=k
   ·rw [if_pos hk] at h ⊢;exact h
   ·rw [if_neg hk] at h ⊢;exact xc2 h
  ·rename_i hs
   have h1:=xc2 h
   by_cases hk:y=k
   ·exfalso
    subst hk
    have:∀{l:List (Nat×α)} {v:α},lk (xfb S l) y=some v→xkn y S=true:=by
     intro l
     induction l with
     | nil=>intro v h;cases h
     | cons a l ih =>
      intro v h
      obtain ⟨p,q⟩:=a
      rw [xfb] at h
      split at h
      ·rename_i hp
       have lkc2:lk ((p,q)::xfb S l) y=if p=y then some q else lk (xfb S l) y:=rfl
       rw [lkc2] at h
       by_cases hpy:p=y
       ·rw [←hpy];exact hp
       ·rw [if_neg hpy] at h;exact ih h
      ·exact ih h
    have h2:=this h
    rw [h2] at hs;cases hs
   ·rw [if_neg hk];exact h1
def xjy (ks rs:List Nat) (o:Out) (F:Fr):Fr:=match o with | .ret=>gcIf ks (trim rs F) | _=>gcIf ks (trim ks F)
def xpI (fn:Func):List Nat:=fn.results.toList.map fun r=>match r with | .tmp t=>t | .cell t _=>t
def xtl (B:Fr→(Out→Fr→Prop)→Prop) (k:Out→Fr→Prop) (H:Fr):Prop :=
 ∃I:Nat→Fr→Prop,(∃n,I n H)∧(∀F,¬I 0 F)∧∀n F,I (n+1) F→xku B k (I n) F
def xnh (C:Orac) (T:Tab) (keep:List (Nat×Bool)) (rs:List Nat) (S:Sums) (L:List Code):Prop :=
 ∀i b H k,L[i]? = some b→S i H k→xtl (fun F k=>sxL C T keep S b (i+1) F k) (fun o F=>k o (xjy (kts keep) rs o F)) H
def Sub (c:Code) (i:Nat) (L:List Code):Prop:=∀j,j<(xbr c).length→L[i+j]? = (xbr c)[j]?
section
open Go.RowKit
variable {P : Program} {T : Tab} {C : Orac} {w0 : Base}
theorem St.trim {G:Gh} {F:Fr} {a:Act} {w:World} (h:St w0 G F a w) {ts:List Nat}:St w0 G (Ev.trim ts F) a w :=
 ⟨⟨h.rel.below,h.rel.defers,h.rel.size,fun _ tv e=>h.rel.tmps _ tv (xlU F.tmps e),h.rel.boxes,h.rel.rows,h.rel.stb,h.rel.own,h.rel.rowv,h.rel.sub,h.rel.wr,h.rel.out⟩,h.free,h.krow,h.kbox,h.kdis⟩
theorem St.gcIf {G:Gh} {F:Fr} {a:Act} {w:World} (h:St w0 G F a w) {ks:List Nat}:St w0 G (Ev.gcIf ks F) a w:=by
 unfold Ev.gcIf
 split
 ·exact ⟨⟨h.rel.below,h.rel.defers,h.rel.size,h.rel.tmps,fun k c b e=>h.rel.boxes k c b (xc2 e),fun id r v e=>h.rel.rows id r v (xc2 e),h.rel.stb,h.rel.own,h.rel.rowv,h.rel.sub,h.rel.wr,h.rel.out⟩,
   h.free,fun id r e=>h.krow id r (xc2 e),fun id r e=>h.kbox id r (xc2 e),fun id r c e e2=>h.kdis id r c (xc2 e) (xc2 e2)⟩
 ·exact h
theorem xco (hT:xaz P T) (hC:xdx P T C) (keep:List (Nat×Bool)) {rs:List Nat} {S:Sums} {L:List Code} (hSm:xnh C T keep rs S L):∀(c:Code) (i:Nat) {F:Fr} {k:Out→Fr→Prop} {G:Gh} {a:Act} {w:World} {Q:Exit→Act→World→Prop},Sub c i L →
 sxL C T keep S c i F k→St w0 G F a w→(∀o F' G' a' w',St w0 G' F' a' w'→k o F'→Q (xrg o) a' w')→c.wp P Q a w
 | .seq x y,i,F,k,G,a,w,Q,hL,h,hS,hQ=>by
  simp only [sxL] at h
  have hl:xbr (.seq x y)=xbr x++xbr y:=rfl
  have hx:Sub x i L:=fun j hj=>by
   rw [hL j (by rw [hl,List.length_append];omega),hl,List.getElem?_append_left hj]
  have hy:Sub y (i+xbN x) L:=fun j hj=>by
   rw [xc0,Nat.add_assoc,hL _ (by rw [hl,List.length_append];omega),hl,List.getElem?_append_right (by omega),Nat.add_sub_cancel_left]
  refine wp_seq (xco hT hC keep hSm x i hx h hS fun o F' G' a' w' hS' hk=>?_)
  cases o with
  | norm =>
   obtain ⟨F2,hS2,hk2⟩:=xmt hk hS'
   exact xco hT hC keep hSm y _ hy hk2 hS2 hQ
  | ret=>exact hQ .ret F' G' a' w' hS' hk
  | exit i=>exact hQ (.exit i) F' G' a' w' hS' hk
 | .cond c x y,i,F,k,G,a,w,Q,hL,h,hS,hQ=>by
  simp only [sxL] at h
  have hl:xbr (.cond c x y)=xbr x++xbr y:=rfl
  have hx:Sub x i L:=fun j hj=>by
   rw [hL j (by rw [hl,List.length_append];omega),hl,List.getElem?_append_left hj]
  have hy:Sub y (i+xbN x) L:=fun j hj=>by
   rw [xc0,Nat.add_assoc,hL _ (by rw [hl,List.length_append];omega),hl,List.getElem?_append_right (by omega),Nat.add_sub_cancel_left]
  split at h
  ·rename_i d
   split at h
   ·rename_i t ht
    obtain ⟨v,h1,h2⟩:=hS.rel.tmps d _ ht
    have h3:v=.bool t:=h2
    subst h3
    have hev:a.eval (.tmp d)=.bool t:=by simp [Act.eval,h1]
    cases t with
    | true=>rw [if_pos rfl] at h;exact wp_cond_true hev (xco hT hC keep hSm x i hx h hS hQ)
    | false=>rw [if_neg (by simp)] at h;exact wp_cond_false hev (xco hT hC keep hSm y _ hy h hS hQ)
   ·rename_i p ht
    unfold xad at h
    split at h
    ·rename_i t
     obtain ⟨v,h1,h2⟩:=hS.rel.tmps d _ ht
     have h3:=xbp.bool_inv h2
     subst h3
     have hev:a.eval (.tmp d)=.bool t:=by simp [Act.eval,h1]
     have hS1:=hS.knows ht
     cases t with
     | true=>rw [if_pos rfl] at h;exact wp_cond_true hev (xco hT hC keep hSm x i hx h hS1 hQ)
     | false=>rw [if_neg (by simp)] at h;exact wp_cond_false hev (xco hT hC keep hSm y _ hy h hS1 hQ)
    ·exact h.elim
   ·exact h.elim
  ·exact h.elim
 | .block id x,i,F,k,G,a,w,Q,hL,h,hS,hQ=>by
  simp only [sxL] at h
  refine wp_block (xco hT hC keep hSm x i hL h hS fun o F' G' a' w' hS' hk=>?_)
  cases o with
  | norm=>exact hQ .norm F' G' a' w' hS' hk
  | ret=>exact hQ .ret F' G' a' w' hS' hk
  | exit i =>
   simp only at hk
   show Exit.inBlock id Q (.exit i) a' w'
   simp only [Exit.inBlock]
   split at hk
   ·rename_i hi;rw [if_pos hi];exact hQ .norm F' G' a' w' hS' hk
   ·rename_i hi;rw [if_neg hi];exact hQ (.exit i) F' G' a' w' hS' hk
 | .loop b,i,F,k,G,a,w,Q,hL,h,hS,hQ=>by
  simp only [sxL] at h
  have hl:xbr (.loop b)=b::xbr b:=rfl
  have hb0:L[i]? = some b:=by have:=hL 0 (by simp [hl]);simpa [hl] using this
  have hbs:Sub b (i+1) L:=fun j hj=>by
   have:=hL (j+1) (by rw [hl,List.length_cons];omega)
   rw [hl,List.getElem?_cons_succ] at this
   rw [←this];congr 1;omega
  split at h
  ·rename_i H hH
   obtain ⟨G1,hS1⟩:=xgL hH hS
   obtain ⟨I,⟨n,hn⟩,hz,hI⟩:=hSm i b H k hb0 h
   refine wp_loop_rounds n ?_
   have key:∀(n:Nat) (F:Fr) (G:Gh) (a:Act) (w:World),I n F→St w0 G F a w→Code.rounds P b Q n a w:=by
    intro n
    induction n with
    | zero=>intro F G a w h _;exact (hz F h).elim
    | succ n ih =>
     intro F G a w h hS
     rw [rounds_succ]
     replace h:=hI n F h
     unfold xku at h
     refine xco hT hC keep hSm b (i+1) hbs h hS fun o F' G' a' w' hS' hk=>?_
     cases o with
     | norm =>
      simp only at hk
      split at hk
      ·rename_i F1 hF1
       obtain ⟨G2,hS2⟩:=xgx hS.keys hS.tb hF1 hS'
       exact ih F1 G2 a' w' hk hS2
      ·exact hk.elim
     | ret=>exact hQ .ret _ G' a' w' hS'.trim.gcIf hk
     | exit i=>exact hQ (.exit i) _ G' a' w' hS'.trim.gcIf hk
   exact key n H G1 a w hn hS1
  ·exact h.elim
 | .skip,i,F,k,G,a,w,Q,_,h,hS,hQ=>xbF hT hC keep .skip h hS hQ
 | .region id ops d,i,F,k,G,a,w,Q,_,h,hS,hQ=>xbF hT hC keep (.region id ops d) h hS hQ
 | .exit j,i,F,k,G,a,w,Q,_,h,hS,hQ=>xbF hT hC keep (.exit j) h hS hQ
 | .ret,i,F,k,G,a,w,Q,_,h,hS,hQ=>xbF hT hC keep .ret h hS hQ
 | .rangeFunc f p x y,i,F,k,G,a,w,Q,_,h,hS,hQ=>xbF hT hC keep (.rangeFunc f p x y) h hS hQ
 | .scope x,i,F,k,G,a,w,Q,_,h,hS,hQ=>xbF hT hC keep (.scope x) h hS hQ
 | .label l,i,F,k,G,a,w,Q,_,h,hS,hQ=>xbF hT hC keep (.label l) h hS hQ
 | .goto l,i,F,k,G,a,w,Q,_,h,hS,hQ=>xbF hT hC keep (.goto l) h hS hQ
 | .refuse y,i,F,k,G,a,w,Q,_,h,hS,hQ=>xbF hT hC keep (.refuse y) h hS hQ
def xrK (C:Orac) (T:Tab) (keep:List (Nat×Bool)) (S:Sums) (fn:Func) (sg:List RS) (av:List AV) (k:List PV→Prop):Prop :=
 match fn.body with
 | some c=>sxL C T keep S c 0 ⟨xec 0 av,[],[],0,fn.ntmps,[]⟩ fun o F=>match o with
  | .norm=>match xeg T F [] fn.results.toList sg with | some (out,_)=>scs (xaA sg) out∧k out | none=>False
  | .ret=>match xeg T F [] fn.results.toList sg with | some (out,_)=>scs (xaA sg) out∧k out | none=>False
  | .exit _=>False
 | none=>False
theorem xfM (hT : xaz P T) (hC : xdx P T C) {f : FuncId} {fn : Func} {S0 : Sums} {keep : List (Nat × Bool)} {sg : List RS} {av : List AV} {out : List PV} (hf : P.funcs[f]? = some fn) (hname : (fn.name == "runtime.NumGoroutine") = false) (hlen : av.length ≤ fn.ntmps)
 (hSm:xnh C T keep (xpI fn) S0 (match fn.body with | some c=>xbr c | none=>[])) (h:xrK C T keep S0 fn sg av (fun o=>o=out)):xgS P sg f av out:=by
 unfold xrK at h
 split at h
 ·rename_i c hbody
  refine ⟨⟨fn,hf,hname,by rw [hbody];rfl⟩,fun w S vals hE hS hv=>?_⟩
  refine calls_of_wp hf hbody ?_
  have hl:=hv.len
  let w0:Base:=⟨w,S,hE,fun _ _=>False⟩
  have hSt:St w0 ⟨S,fun _=>none,fun _=>none,fun _=>none⟩ ⟨xec 0 av,[],[],0,fn.ntmps,[]⟩ { tmps:=vals.toArray++Array.replicate (fn.ntmps-vals.toArray.size) undef,defers:=[] } w:=by
   refine ⟨⟨.refl _ _,rfl,by simp;omega,fun t tv e=>?_,fun k cells b e=>(nomatch e),fun id r v e=>(nomatch e),fun x hx=>⟨rfl,hS x hx⟩,fun x id e=>(nomatch e),fun id v e=>(nomatch e),fun x hx=>.inl hx,fun x id e=>(nomatch e),fun tv v h=>h.elim⟩,
    fun id _=>⟨rfl,rfl,fun x=>by simp⟩,fun id r e=>(nomatch e),fun id r e=>(nomatch e),fun id r c e=>(nomatch e)⟩
   obtain ⟨v,h1,h2,h3⟩:=xjT (no:=fun _=>none) (rw':=fun _=>none) (bx:=fun _=>none) hv e
   have hlt:t<vals.length:=by
    rcases Nat.lt_or_ge t vals.length with h' | h'
    ·exact h'
    ·rw [Nat.sub_zero,List.getElem?_eq_none h'] at h2;cases h2
   refine ⟨v,?_,h3⟩
   rw [Array.getElem?_append_left (by simpa using hlt)]
   simpa using h2
  have hend:∀(F:Fr) (G:Gh) (a':Act) (w':World),St w0 G F a' w'→(match xeg T F [] fn.results.toList sg with | some (o,_)=>scs (xaA sg) o∧o=out | none=>False) →
   a'.defers=[]∧∃v,(results fn a'.tmps).run P w'=.ok v w'∧∃v' S' no cvs,Ending.returned v=.returned v'∧Post sg out S w v' w' S' no cvs:=by
   intro F G a' w' hS' hk
   split at hk
   ·rename_i o u ho
    obtain ⟨hsc,rfl⟩:=hk
    obtain ⟨rcs,cvs,k1,k2,k3⟩:=xhH hT hS'.rel ho
    obtain ⟨S',no,hp⟩:=xop (w0:=w0) hS hS'.rel k1 k2 hsc
    refine ⟨hS'.rel.defers,xp3 (xcH sg cvs),?_,_,S',no,cvs,rfl,hp⟩
    unfold results
    refine (xfo (P:=P) (w:=w') k3 _ _ fun r v hr=>?_).trans ?_
    ·cases r<;>exact hr
    ·match hq:xcH sg cvs with
     | []=>rfl
     | [v]=>rfl
     | v1::v2::vs=>rfl
   ·exact hk.elim
  rw [hbody] at hSm
  refine xco hT hC keep hSm c 0 (fun j _=>by rw [Nat.zero_add]) h hSt fun o F G a' w' hS' hk=>?_
  cases o with
  | norm=>exact hend F G a' w' hS' hk
  | ret=>exact hend F G a' w' hS' hk
  | exit i=>exact hk.elim
 ·exact h.elim
end
abbrev Sums2:=Option (Nat×Nat)→Sums
def xrR (Cc:FuncId→List AV→List PV→Prop) (T:Tab) (S:Sums2):Nat→FuncId→Fr→(TV→Fr→Prop)→Prop
 | 0,_,_,_=>False
 | n+1,f,F,k=>match lk T.inl f with
  | some e=>match e.1.body with
   | some c=>if F.nt=e.1.ntmps then sxL ⟨Cc,xrR Cc T S n⟩ T e.2 (S (some (n,f))) c 0 F fun o F=>match o with
    | .norm=>(match xhD T F e.1.results.toList with | some tvs=>k (xkv tvs) F | none=>False)
    | .ret=>(match xhD T F e.1.results.toList with | some tvs=>k (xkv tvs) F | none=>False)
    | .exit _=>False
    else False
   | none=>False
  | none=>False
def xpF (Cc:FuncId→List AV→List PV→Prop) (T:Tab) (S:Sums2) (n:Nat):Prop :=
 ∀m,m<n→∀f e c,lk T.inl f=some e→e.1.body=some c→xnh ⟨Cc,xrR Cc T S m⟩ T e.2 (xpI e.1) (S (some (m,f))) (xbr c)
section
open Go.RowKit
theorem xoT {P:Program} {T:Tab} (hT:xaz P T) {Cc:FuncId→List AV→List PV→Prop} {S:Sums2} (hC:∀f sg,lk T.sig f=some sg→∀av out,Cc f av out→Owes P sg f av out):∀n,xpF Cc T S n→xsX P (xrR Cc T S n)
 | 0,_=>fun _ _ _ h=>h.elim
 | n+1,hSm=>fun f F k h=>by
  simp only [xrR] at h
  split at h
  ·rename_i e he
   split at h
   ·rename_i c hbody
    split at h
    ·rename_i hnt
     obtain ⟨hf,hname⟩:=hT.inl f e he
     refine ⟨⟨e.1,hf,hname,by rw [hbody];rfl⟩,fun w0 G vals w hlen hS=>?_⟩
     refine calls_of_wp hf hbody ?_
     rw [hnt] at hS
     refine xco (C:=⟨Cc,xrR Cc T S n⟩) hT ⟨hC,xoT hT hC n fun m hm=>hSm m (Nat.lt_succ_of_lt hm)⟩ e.2 (hSm n (Nat.lt_succ_self n) f e c he hbody) c 0 (fun j _=>by rw [Nat.zero_add]) h hS fun o F' G' a' w' hS' hk=>?_
     cases o with
     | norm=>exact xoS hT e.1 hS' hk
     | ret=>exact xoS hT e.1 hS' hk
     | exit i=>exact hk.elim
    ·exact h.elim
   ·exact h.elim
  ·exact h.elim
end
def xcF:List Cap→List Cap→Bool
 | [],[]=>true
 | .box a::r,.box b::s=>a==b&&xcF r s
 | .ro a::r,.ro b::s=>xmx a b&&xcF r s
 | _,_=>false
def xpW:Cell→Cell→Bool
 | .pv _,.pv _=>true
 | .nil e s,.nil e' s'=>e==e'&&s==s'
 | .own i,.own j=>i==j
 | .dead,.dead=>true
 | .kb a,.kb b=>a==b
 | .ptr k o,.ptr k' o'=>k==k'&&o==o'
 | .sptr a,.sptr b=>a.length==b.length
 | .sfn f a,.sfn g b=>f==g&&a.map (·.length)==b.map (·.length)
 | .optr a b c d,.optr a' b' c' d'=>a==a'&&b==b'&&c==c'&&d==d'
 | .fn f a,.fn g b=>f==g&&xcF a b
 | _,_=>false
def xhu:List Cell→List Cell→Bool
 | [],[]=>true
 | a::r,b::s=>xpW a b&&xhu r s
 | _,_=>false
def xrG:TV→TV→Bool
 | .one a,.one b=>xpW a b
 | .agg a,.agg b=>xhu a b
 | .undef,.undef=>true
 | _,_=>false
def xiV:List (Nat×TV)→List (Nat×TV)→Bool
 | [],[]=>true
 | a::r,b::s=>a.1==b.1&&xrG a.2 b.2&&xiV r s
 | _,_=>false
def xiX:List (Nat×List Cell)→List (Nat×List Cell)→Bool
 | [],[]=>true
 | a::r,b::s=>a.1==b.1&&xhu a.2 b.2&&xiX r s
 | _,_=>false
def xiW:List (Nat×Row)→List (Nat×Row)→Bool
 | [],[]=>true
 | a::r,b::s=>a.1==b.1&&decide (a.2.kind=b.2.kind)&&a.2.elem==b.2.elem&&a.2.sz==b.2.sz&&xiW r s
 | _,_=>false
def xlH (H F:Fr):Bool:=xiV H.tmps F.tmps&&xiX H.boxes F.boxes&&xiW H.rows F.rows&&H.next==F.next&&H.nt==F.nt&&H.pin==F.pin
def xp8:RO→List PV
 | .cells a=>a
 | .fn _ q=>q.flatten
def xfp:List Cap→List PV
 | []=>[]
 | .box _::r=>xfp r
 | .ro a::r=>xp8 a++xfp r
def xud:Cell→List PV
 | .pv p=>[p]
 | .sptr a=>a
 | .fn _ a=>xfp a
 | .sfn _ q=>q.flatten
 | _=>[]
def xon:List Cell→List PV
 | []=>[]
 | c::r=>xud c++xon r
def xuc:TV→List PV
 | .one c=>xud c
 | .agg cs=>xon cs
 | _=>[]
def xp6:List (Nat×TV)→List PV
 | []=>[]
 | x::r=>xuc x.2++xp6 r
def xp9:List (Nat×List Cell)→List PV
 | []=>[]
 | x::r=>xon x.2++xp9 r
def xp7:List (Nat×Row)→List PV
 | []=>[]
 | x::r=>x.2.e::xp7 r
def xq6 (F:Fr):List PV:=xp6 F.tmps++(xp9 F.boxes++xp7 F.rows)
def hd (v:List PV):PV:=match v with | p::_=>p | []=>.bool false
def xjl:List PV→List PV→List PV×List PV
 | [],v=>([],v)
 | _::a,v=>let x:=xjl a v.tail;(hd v::x.1,x.2)
def xk2:List (List PV)→List PV→List (List PV)×List PV
 | [],v=>([],v)
 | a::r,v=>let y:=xjl a v;let x:=xk2 r y.2;(y.1::x.1,x.2)
def xmZ:RO→List PV→RO×List PV
 | .cells a,v=>let y:=xjl a v;(.cells y.1,y.2)
 | .fn f q,v=>let y:=xk2 q v;(.fn f y.1,y.2)
def xeV:List Cap→List PV→List Cap×List PV
 | [],v=>([],v)
 | .box k::r,v=>let x:=xeV r v;(.box k::x.1,x.2)
 | .ro a::r,v=>let y:=xmZ a v;let x:=xeV r y.2;(.ro y.1::x.1,x.2)
def xqv:Cell→List PV→Cell×List PV
 | .pv _,v=>(.pv (hd v),v.tail)
 | .sptr a,v=>let y:=xjl a v;(.sptr y.1,y.2)
 | .sfn f q,v=>let y:=xk2 q v;(.sfn f y.1,y.2)
 | .fn f a,v=>let y:=xeV a v;(.fn f y.1,y.2)
 | c,v=>(c,v)
def xk3:List Cell→List PV→List Cell×List PV
 | [],v=>([],v)
 | c::r,v=>let y:=xqv c v;let x:=xk3 r y.2;(y.1::x.1,x.2)
def xqu:TV→List PV→TV×List PV
 | .one c,v=>let y:=xqv c v;(.one y.1,y.2)
 | .agg cs,v=>let y:=xk3 cs v;(.agg y.1,y.2)
 | t,v=>(t,v)
def xmX:List (Nat×TV)→List PV→List (Nat×TV)×List PV
 | [],v=>([],v)
 | c::r,v=>let y:=xqu c.2 v;let x:=xmX r y.2;((c.1,y.1)::x.1,x.2)
def xm1:List (Nat×List Cell)→List PV→List (Nat×List Cell)×List PV
 | [],v=>([],v)
 | c::r,v=>let y:=xk3 c.2 v;let x:=xm1 r y.2;((c.1,y.1)::x.1,x.2)
def xmY:List (Nat×Row)→List PV→List (Nat×Row)
 | [],_=>[]
 | c::r,v=>(c.1,{ c.2 with e:=hd v })::xmY r v.tail
def fill (H:Fr) (v:List PV):Fr :=
 let x:=xmX H.tmps v;let y:=xm1 H.boxes x.2
 ⟨x.1,y.1,xmY H.rows y.2,H.next,H.nt,H.pin⟩
theorem xfY:∀{a b:List PV} (r:List PV),a.length=b.length→xjl a (b++r)=(b,r)
 | [],[],r,_=>rfl
 | x::a,y::b,r,h=>by
  have:=xfY (a:=a) (b:=b) r (by simpa using h)
  simp [xjl,this,hd]
theorem xh4:∀{a b:List (List PV)} (r:List PV),a.map (·.length)=b.map (·.length)→xk2 a (b.flatten++r)=(b,r)
 | [],[],r,_=>rfl
 | x::a,y::b,r,h=>by
  simp only [List.map_cons,List.cons.injEq] at h
  have h1:=xfY (b.flatten++r) h.1
  have h2:=xh4 r h.2
  simp only [xk2,List.flatten_cons,List.append_assoc,h1,h2]
 | [],_::_,r,h=>by simp at h
 | _::_,[],r,h=>by simp at h
theorem xo2 {a b:RO} (r:List PV) (h:xmx a b=true):xmZ a (xp8 b++r)=(b,r):=by
 cases a<;>cases b<;>simp only [xmx,Bool.and_eq_true,beq_iff_eq] at h
 ·simp only [xmZ,xp8,xfY r h]
 ·cases h
 ·cases h
 ·simp only [xmZ,xp8,xh4 r h.2,h.1]
theorem xfw:∀{a b:List Cap} (r:List PV),xcF a b=true→xeV a (xfp b++r)=(b,r)
 | [],[],r,_=>rfl
 | .box x::a,.box y::b,r,h=>by
  simp only [xcF,Bool.and_eq_true,beq_iff_eq] at h
  have:=xfw (a:=a) (b:=b) r h.2
  simp [xeV,xfp,this,h.1]
 | .ro x::a,.ro y::b,r,h=>by
  simp only [xcF,Bool.and_eq_true,beq_iff_eq] at h
  have h1:=xfw (a:=a) (b:=b) r h.2
  have h2:=xo2 (xfp b++r) h.1
  simp only [xeV,xfp,List.append_assoc,h2,h1]
 | [],_::_,r,h=>by simp [xcF] at h
 | .box _::_,.ro _::_,r,h=>by simp [xcF] at h
 | .ro _::_,.box _::_,r,h=>by simp [xcF] at h
 | .ro _::_,[],r,h=>by simp [xcF] at h
 | .box _::_,[],r,h=>by simp [xcF] at h
theorem xm0 {a b:Cell} (r:List PV) (h:xpW a b=true):xqv a (xud b++r)=(b,r):=by
 cases a<;>cases b<;>simp [xpW] at h<;>simp [xqv,xud,hd,h]
 ·rw [xfY r h];exact ⟨rfl,rfl⟩
 ·rw [xfw r h.2];exact ⟨rfl,rfl⟩
 ·rw [xh4 r h.2];exact ⟨rfl,rfl⟩
theorem xh5:∀{a b:List Cell} (r:List PV),xhu a b=true→xk3 a (xon b++r)=(b,r)
 | [],[],r,_=>rfl
 | x::a,y::b,r,h=>by
  simp only [xhu,Bool.and_eq_true] at h
  simp only [xk3,xon,List.append_assoc,xm0 _ h.1,xh5 r h.2]
 | [],_::_,r,h=>by simp [xhu] at h
 | _::_,[],r,h=>by simp [xhu] at h
theorem xqt {a b:TV} (r:List PV) (h:xrG a b=true):xqu a (xuc b++r)=(b,r):=by
 cases a<;>cases b<;>simp only [xrG] at h<;>first | (simp only [xqu,xuc,xm0 r h]) | (simp only [xqu,xuc,xh5 r h]) | rfl | cases h
theorem xk0:∀{a b:List (Nat×TV)} (r:List PV),xiV a b=true→xmX a (xp6 b++r)=(b,r)
 | [],[],r,_=>rfl
 | (i,x)::a,(j,y)::b,r,h=>by
  simp only [xiV,Bool.and_eq_true,beq_iff_eq] at h
  obtain ⟨⟨h1,h2⟩,h3⟩:=h
  subst h1
  simp only [xmX,xp6,List.append_assoc,xqt _ h2,xk0 r h3]
 | [],_::_,r,h=>by simp [xiV] at h
 | _::_,[],r,h=>by simp [xiV] at h
theorem xk4:∀{a b:List (Nat×List Cell)} (r:List PV),xiX a b=true→xm1 a (xp9 b++r)=(b,r)
 | [],[],r,_=>rfl
 | (i,x)::a,(j,y)::b,r,h=>by
  simp only [xiX,Bool.and_eq_true,beq_iff_eq] at h
  obtain ⟨⟨h1,h2⟩,h3⟩:=h
  subst h1
  simp only [xm1,xp9,List.append_assoc,xh5 _ h2,xk4 r h3]
 | [],_::_,r,h=>by simp [xiX] at h
 | _::_,[],r,h=>by simp [xiX] at h
theorem xk1:∀{a b:List (Nat×Row)},xiW a b=true→xmY a (xp7 b)=b
 | [],[],_=>rfl
 | (i,⟨k1,e1,s1,x⟩)::a,(j,⟨k2,e2,s2,y⟩)::b,h=>by
  simp only [xiW,Bool.and_eq_true,beq_iff_eq,decide_eq_true_eq] at h
  obtain ⟨⟨⟨⟨h1,h2⟩,h3⟩,h4⟩,h5⟩:=h
  subst h1;subst h2;subst h3;subst h4
  simp only [xmY,xp7,hd,List.tail_cons,xk1 h5]
 | [],_::_,h=>by simp [xiW] at h
 | _::_,[],h=>by simp [xiW] at h
theorem xrX {H F:Fr} (h:xlH H F=true):fill H (xq6 F)=F:=by
 simp only [xlH,Bool.and_eq_true,beq_iff_eq] at h
 obtain ⟨⟨⟨⟨⟨h1,h2⟩,h3⟩,h4⟩,h5⟩,h6⟩:=h
 simp only [fill,xq6,xk0 _ h1,xk4 _ h2,xk1 h3,h4,h5,h6]
def chk (H F:Fr) (f:List PV→Prop):Prop:=match xlH H F with | true=>f (xq6 F) | false=>False
def itP (R:(List PV→Prop)→List PV→Prop):Nat→List PV→Prop
 | 0,_=>False
 | n+1,v=>R (itP R n) v
def lp (R:(List PV→Prop)→List PV→Prop) (v:List PV):Prop:=∃n,itP R n v
abbrev GM:=List AV→(List PV→Prop)→Prop
structure Ent where
 key:List Nat
 g:GM
def xuI:List RO→List Nat
 | []=>[]
 | .fn g _::r=>g::xuI r
 | .cells _::r=>xuI r
def xj0:List AV→List Nat
 | []=>[]
 | .fn g q::r=>g::(xuI q++xj0 r)
 | .ro (.fn g _)::r=>g::xj0 r
 | .nil _ _::r=>999999::xj0 r
 | _::r=>xj0 r
def xtp:List Nat→List Nat→Bool
 | [],[]=>true
 | a::r,b::s=>Nat.beq a b&&xtp r s
 | _,_=>false
theorem xo4:∀{a b:List Nat},xtp a b=true→a=b
 | [],[],_=>rfl
 | a::r,b::s,h=>by
  simp only [xtp,Bool.and_eq_true,Nat.beq_eq] at h
  rw [h.1,xo4 h.2]
 | [],_::_,h=>by cases h
 | _::_,[],h=>by cases h
def lkE:List Ent→List Nat→Option GM
 | [],_=>none
 | e::l,k=>match xtp e.key k with | true=>some e.g | false=>lkE l k
def orac0 (L:List Ent):FuncId→List AV→List PV→Prop:=fun f av out=>match lkE L (f::xj0 av) with | some g=>g av (fun o=>o=out) | none=>False
def orac (T:Tab) (L:List Ent) (S:Sums2):Orac:=⟨orac0 L,xrR (orac0 L) T S 3⟩
structure LE where
 w:Option (Nat×Nat)
 i:Nat
 H:Fr
 R:(List PV→Prop)→(Out→Fr→Prop)→List PV→Prop
def eqW:Option (Nat×Nat)→Option (Nat×Nat)→Bool
 | none,none=>true
 | some (a,b),some (c,d)=>Nat.beq a c&&Nat.beq b d
 | _,_=>false
theorem xto {a b:Option (Nat×Nat)} (h:eqW a b=true):a=b:=by
 match a,b with
 | none,none=>rfl
 | some (a,b),some (c,d)=>simp only [eqW,Bool.and_eq_true,Nat.beq_eq] at h;rw [h.1,h.2]
 | none,some (_,_)=>cases h
 | some (_,_),none=>cases h
def xbG:List LE→Sums2
 | [],_,_,_,_=>False
 | e::l,w,i,F,k=>match eqW e.w w&&Nat.beq e.i i&&xlH e.H F with | true=>lp (fun K v=>e.R K k v) (xq6 F) | false=>xbG l w i F k
@[irreducible] def xhB (B:Fr→(Out→Fr→Prop)→Prop) (k:Out→Fr→Prop) (K:Fr→Prop) (F:Fr):Prop:=xku B k K F
def xuq (L:List Ent) (T:Tab) (keep:List (Nat×Bool)) (l:List LE) (fn:Func) (e:LE):Prop:=match e.w with
 | none=>∀v K k,e.R K k v→xhB (fun F k=>sxL (orac T L (xbG l)) T keep (xbG l none) (xfa fn e.i) (e.i+1) F k) (fun o F=>k o (xjy (kts keep) (xpI fn) o F)) (fun F=>chk e.H F K) (fill e.H v)
 | some (m,f)=>match lk T.inl f with
  | some fe=>∀v K k,e.R K k v→xhB (fun F k=>sxL ⟨orac0 L,xrR (orac0 L) T (xbG l) m⟩ T fe.2 (xbG l (some (m,f))) (xfa fe.1 e.i) (e.i+1) F k) (fun o F=>k o (xjy (kts fe.2) (xpI fe.1) o F)) (fun F=>chk e.H F K) (fill e.H v)
  | none=>False
def xaC (L:List Ent) (T:Tab) (keep:List (Nat×Bool)) (l:List LE) (fn:Func):List LE→Prop
 | []=>True
 | e::r=>xuq L T keep l fn e∧xaC L T keep l fn r
theorem xlE {L:List Ent} {T:Tab} {keep:List (Nat×Bool)} {l0:List LE} {fn:Func}:∀{l:List LE} {w:Option (Nat×Nat)} {i:Nat} {F:Fr} {k:Out→Fr→Prop},xaC L T keep l0 fn l→xbG l w i F k→∃e,e.w=w∧e.i=i∧xlH e.H F=true∧lp (fun K v=>e.R K k v) (xq6 F)∧xuq L T keep l0 fn e
 | e::l,w,i,F,k,hl,h=>by
  rw [xbG] at h
  cases hb:eqW e.w w&&Nat.beq e.i i&&xlH e.H F with
  | true =>
   rw [hb] at h
   simp only [Bool.and_eq_true,Nat.beq_eq] at hb
   exact ⟨e,xto hb.1.1,hb.1.2,hb.2,h,hl.1⟩
  | false =>
   rw [hb] at h
   exact xlE hl.2 h
theorem xiZ {C:Orac} {T:Tab} {keep:List (Nat×Bool)} {rs:List Nat} {S:Sums} {b:Code} {i:Nat} {e:LE} {H:Fr} {k:Out→Fr→Prop} (hsm:xlH e.H H=true) {n:Nat} (hn:itP (fun K v=>e.R K k v) n (xq6 H))
 (hl:∀v K k,e.R K k v→xhB (fun F k=>sxL C T keep S b (i+1) F k) (fun o F=>k o (xjy (kts keep) rs o F)) (fun F=>chk e.H F K) (fill e.H v)) :
 xtl (fun F k=>sxL C T keep S b (i+1) F k) (fun o F=>k o (xjy (kts keep) rs o F)) H:=by
 unfold xhB at hl
 have hc:∀(F:Fr) (f:List PV→Prop),chk e.H F f→F=fill e.H (xq6 F)∧f (xq6 F):=by
  intro F f hf
  unfold chk at hf
  split at hf
  ·rename_i hsm;exact ⟨(xrX hsm).symm,hf⟩
  ·exact hf.elim
 refine ⟨fun n F=>chk e.H F (fun v=>itP (fun K v=>e.R K k v) n v),⟨n,?_⟩,?_,?_⟩
 ·show chk e.H H _
  unfold chk;rw [hsm];exact hn
 ·intro F hF
  exact (hc F _ hF).2
 ·intro n F hF
  obtain ⟨h1,h2⟩:=hc F _ hF
  rw [h1]
  exact hl _ _ _ h2
theorem xkG {fn:Func} {i:Nat} {b:Code} (hb:(match fn.body with | some c=>xbr c | none=>[])[i]? = some b):xfa fn i=b:=by
 unfold xfa
 split<;>rename_i hbd<;>rw [hbd] at hb
 ·simp [hb]
 ·simp at hb
theorem xhn {L:List Ent} {T:Tab} {keep:List (Nat×Bool)} {fn:Func} {l:List LE} (h:xaC L T keep l fn l):xnh (orac T L (xbG l)) T keep (xpI fn) (xbG l none) (match fn.body with | some c=>xbr c | none=>[]):=by
 intro i b H k hb hS
 obtain ⟨e,hw,he,hsm,⟨n,hn⟩,hl⟩:=xlE h hS
 subst he
 have hbe:=xkG hb
 unfold xuq at hl
 rw [hw] at hl
 simp only [hbe] at hl
 exact xiZ hsm hn hl
theorem xpP {L:List Ent} {T:Tab} {keep:List (Nat×Bool)} {fn:Func} {l:List LE} (h:xaC L T keep l fn l) (n:Nat):xpF (orac0 L) T (xbG l) n:=by
 intro m _ f fe c hf hbody i b H k hb hS
 obtain ⟨e,hw,he,hsm,⟨n,hn⟩,hl⟩:=xlE h hS
 subst he
 have hbe:xfa fe.1 e.i=b:=xkG (by rw [hbody];exact hb)
 unfold xuq at hl
 rw [hw] at hl
 simp only [hf,hbe] at hl
 exact xiZ hsm hn hl
def Cur:Nat→Type
 | 0=>Prop
 | n+1=>PV→Cur n
def cur0 (F:Cur 0):Prop:=F
def un:(n:Nat)→Cur n→List PV→Prop
 | 0,F,[]=>cur0 F
 | n+1,F,a::v=>un n (F a) v
 | _,_,_=>False
def xwo:(n:Nat)→Cur n→List PV→(List PV→Prop)→Prop
 | 0,F,acc,Q=>cur0 F→Q acc.reverse
 | n+1,F,acc,Q=>∀a,xwo n (F a) (a::acc) Q
theorem xn2:∀{n:Nat} {F:Cur n} {acc v:List PV} {Q:List PV→Prop},un n F v→xwo n F acc Q→Q (acc.reverse++v)
 | 0,_,acc,[],_,h,hQ=>by rw [List.append_nil];exact hQ h
 | n+1,_,acc,a::v,Q,h,hQ=>by
  have:=xn2 (n:=n) (acc:=a::acc) (v:=v) (Q:=Q) h (hQ a)
  simpa using this
 | 0,_,_,_::_,_,h,_=>h.elim
 | _+1,_,_,[],_,h,_=>h.elim
theorem xab {n:Nat} {F:Cur n} {v:List PV} {Q:List PV→Prop} (h:un n F v) (hQ:xwo n F [] Q):Q v:=by
 have:=xn2 (acc:=[]) h hQ
 simpa using this
def xfE (P:Program) (T:Tab) (e:Ent):Prop:=∀f av out,e.key=f::xj0 av→e.g av (fun o=>o=out)→∀sg,lk T.sig f=some sg→Owes P sg f av out
def xbA (P:Program) (T:Tab):List Ent→Prop
 | []=>True
 | e::l=>xfE P T e∧xbA P T l
theorem xbA.tab {P:Program} {T T':Tab} (h:T'.sig=T.sig):∀{L:List Ent},xbA P T L→xbA P T' L
 | [],_=>trivial
 | e::L,hL=>⟨fun f av out h1 h2 sg hs=>hL.1 f av out h1 h2 sg (by rw [←h];exact hs),xbA.tab h hL.2⟩
theorem xjH {P:Program} {T:Tab}:∀{L:List Ent},xbA P T L→∀f sg,lk T.sig f=some sg→∀av out,orac0 L f av out→Owes P sg f av out
 | [],_=>fun _ _ _ _ _ h=>h.elim
 | e::L,hL=>fun f sg hsg av out h=>by
  unfold orac0 at h
  rw [lkE] at h
  cases hk:xtp e.key (f::xj0 av) with
  | true=>rw [hk] at h;exact hL.1 f av out (xo4 hk) h sg hsg
  | false=>rw [hk] at h;exact xjH hL.2 f sg hsg av out h
theorem xhJ {P:Program} {T:Tab} (hT:xaz P T) {L:List Ent} (hL:xbA P T L) {keep:List (Nat×Bool)} {fn:Func} {l:List LE} (h:xaC L T keep l fn l):xdx P T (orac T L (xbG l)):=⟨xjH hL,xoT hT (xjH hL) 3 (xpP h 3)⟩
def call (g:GM) (av:List AV) (k:List PV→Prop):Prop:=∃out,g av (fun o=>o=out)∧k out
def rt (cks:List CK) (out:List PV) (k:List PV→Prop):Prop:=scs cks out∧k out
@[irreducible] def xdi (C:Orac) (T:Tab) (keep:List (Nat×Bool)) (l:List LE) (fn:Func) (sg:List RS) (av:List AV) (k:List PV→Prop):Prop :=
 match Nat.ble av.length fn.ntmps with
 | true=>xrK C T keep (xbG l none) fn sg av k
 | false=>False
theorem xtq {P:Program} {T:Tab} (hT:xaz P T) {L:List Ent} (hL:xbA P T L) {f:Nat} {fn:Func} {sg:List RS} {keep:List (Nat×Bool)} {l:List LE} {g:GM} {cl:List Nat}
 (hf : P.funcs[f]? = some fn) (hn : (fn.name == "runtime.NumGoroutine") = false) (hsg : lk T.sig f = some sg) (hS : xaC L T keep l fn l)
 (h:∀av k,g av k→xdi (orac T L (xbG l)) T keep l fn sg av k) (hns:xhT sg=false:=by rfl):xfE P T ⟨f::cl,g⟩:=by
 intro f' av out hk hg sg' hsg'
 injection hk with hk _
 subst hk
 have h2:=h av _ hg
 rw [hsg] at hsg'
 injection hsg' with hsg'
 subst hsg'
 unfold xdi at h2
 split at h2
 ·rename_i hm
  refine ⟨fun _=>?_,fun h=>by rw [hns] at h;cases h⟩
  exact xfM hT (xhJ hT hL hS) hf hn (Nat.le_of_ble_eq_true hm) (xhn hS) h2
 ·exact h2.elim
theorem xaz.moving {P:Program} {T:Tab} (h:xaz P T):xaz P T.moving:=⟨fun t i hi=>have q:=h.ty t i hi;⟨q.info,q.size,q.zlen,q.agg,q.one,q.nofl,q.fsz,q.slice,q.ik,q.tag1,q.tag2,q.tag3,q.eqk⟩,h.zero,h.mixed,h.inl,h.fnt⟩
theorem xr0 {P:Program} {T:Tab} (hT:xaz P T) {L:List Ent} (hL:xbA P T L) {f:Nat} {fn:Func} {sg:List RS} {keep:List (Nat×Bool)} {l:List LE} {g:GM} {cl:List Nat}
 (hf : P.funcs[f]? = some fn) (hn : (fn.name == "runtime.NumGoroutine") = false) (hsg : lk T.sig f = some sg) (hS : xaC L T.moving keep l fn l)
 (h:∀av k,g av k→xdi (orac T.moving L (xbG l)) T.moving keep l fn sg av k) (hns:xhT sg=false:=by rfl):xfE P T ⟨f::cl,g⟩:=by
 intro f' av out hk hg sg' hsg'
 injection hk with hk _
 subst hk
 have h2:=h av _ hg
 rw [hsg] at hsg'
 injection hsg' with hsg'
 subst hsg'
 unfold xdi at h2
 split at h2
 ·rename_i hm
  refine ⟨fun _=>?_,fun h=>by rw [hns] at h;cases h⟩
  exact xfM hT.moving (xhJ hT.moving (xbA.tab (T:=T) (T':=T.moving) rfl hL) hS) hf hn (Nat.le_of_ble_eq_true hm) (xhn hS) h2
 ·exact h2.elim
theorem xaz.nofl {P:Program} {T:Tab} (h:xaz P T):xaz P T.nofl:=⟨fun t i hi=>have q:=h.ty t i hi;⟨q.info,q.size,q.zlen,q.agg,q.one,q.nofl,q.fsz,q.slice,q.ik,q.tag1,q.tag2,q.tag3,q.eqk⟩,h.zero,h.mixed,h.inl,h.fnt⟩
theorem xr1 {P:Program} {T:Tab} (hT:xaz P T) {L:List Ent} (hL:xbA P T L) {f:Nat} {fn:Func} {sg:List RS} {keep:List (Nat×Bool)} {l:List LE} {g:GM} {cl:List Nat}
 (hf : P.funcs[f]? = some fn) (hn : (fn.name == "runtime.NumGoroutine") = false) (hsg : lk T.sig f = some sg) (hS : xaC L T.nofl keep l fn l)
 (h:∀av k,g av k→xdi (orac T.nofl L (xbG l)) T.nofl keep l fn sg av k) (hns:xhT sg=false:=by rfl):xfE P T ⟨f::cl,g⟩:=by
 intro f' av out hk hg sg' hsg'
 injection hk with hk _
 subst hk
 have h2:=h av _ hg
 rw [hsg] at hsg'
 injection hsg' with hsg'
 subst hsg'
 unfold xdi at h2
 split at h2
 ·rename_i hm
  refine ⟨fun _=>?_,fun h=>by rw [hns] at h;cases h⟩
  exact xfM hT.nofl (xhJ hT.nofl (xbA.tab (T:=T) (T':=T.nofl) rfl hL) hS) hf hn (Nat.le_of_ble_eq_true hm) (xhn hS) h2
 ·exact h2.elim
theorem xaz.wind {P:Program} {T:Tab} (h:xaz P T):xaz P T.wind:=⟨fun t i hi=>have q:=h.ty t i hi;⟨q.info,q.size,q.zlen,q.agg,q.one,q.nofl,q.fsz,q.slice,q.ik,q.tag1,q.tag2,q.tag3,q.eqk⟩,h.zero,h.mixed,h.inl,h.fnt⟩
theorem xrY {P:Program} {T:Tab} (hT:xaz P T) {L:List Ent} (hL:xbA P T L) {f:Nat} {fn:Func} {sg:List RS} {keep:List (Nat×Bool)} {l:List LE} {g:GM} {cl:List Nat}
 (hf : P.funcs[f]? = some fn) (hn : (fn.name == "runtime.NumGoroutine") = false) (hsg : lk T.sig f = some sg) (hS : xaC L T.wind keep l fn l)
 (h:∀av k,g av k→xdi (orac T.wind L (xbG l)) T.wind keep l fn sg av k) (hns:xhT sg=false:=by rfl):xfE P T ⟨f::cl,g⟩:=by
 intro f' av out hk hg sg' hsg'
 injection hk with hk _
 subst hk
 have h2:=h av _ hg
 rw [hsg] at hsg'
 injection hsg' with hsg'
 subst hsg'
 unfold xdi at h2
 split at h2
 ·rename_i hm
  refine ⟨fun _=>?_,fun h=>by rw [hns] at h;cases h⟩
  exact xfM hT.wind (xhJ hT.wind (xbA.tab (T:=T) (T':=T.wind) rfl hL) hS) hf hn (Nat.le_of_ble_eq_true hm) (xhn hS) h2
 ·exact h2.elim
theorem xaz.shr {P:Program} {T:Tab} (h:xaz P T):xaz P T.shr:=⟨fun t i hi=>have q:=h.ty t i hi;⟨q.info,q.size,q.zlen,q.agg,q.one,q.nofl,q.fsz,q.slice,q.ik,q.tag1,q.tag2,q.tag3,q.eqk⟩,h.zero,h.mixed,h.inl,h.fnt⟩
theorem xrZ {P:Program} {T:Tab} (hT:xaz P T) {L:List Ent} (hL:xbA P T L) {f:Nat} {fn:Func} {sg:List RS} {keep:List (Nat×Bool)} {l:List LE} {g:GM} {cl:List Nat}
 (hf : P.funcs[f]? = some fn) (hn : (fn.name == "runtime.NumGoroutine") = false) (hsg : lk T.sig f = some sg) (hS : xaC L T.shr keep l fn l)
 (h:∀av k,g av k→xdi (orac T.shr L (xbG l)) T.shr keep l fn sg av k) (hns:xhT sg=false:=by rfl):xfE P T ⟨f::cl,g⟩:=by
 intro f' av out hk hg sg' hsg'
 injection hk with hk _
 subst hk
 have h2:=h av _ hg
 rw [hsg] at hsg'
 injection hsg' with hsg'
 subst hsg'
 unfold xdi at h2
 split at h2
 ·rename_i hm
  refine ⟨fun _=>?_,fun h=>by rw [hns] at h;cases h⟩
  exact xfM hT.shr (xhJ hT.shr (xbA.tab (T:=T) (T':=T.shr) rfl hL) hS) hf hn (Nat.le_of_ble_eq_true hm) (xhn hS) h2
 ·exact h2.elim
end Go.Ev
/- A long text in parts: what it says is said part by part. -/
namespace Go.Ev
def xga:Nat→Code→Code
 | 0,_=>.skip
 | n+1,c=>match c with
  | .seq a b=>.seq a (xga n b)
  | c=>c
def xj6:Nat→Code→Code
 | 0,c=>c
 | n+1,c=>match c with
  | .seq _ b=>xj6 n b
  | _=>.skip
def xuK (C:Orac) (T:Tab) (keep:List (Nat×Bool)) (S:Sums) (c:Code) (i:Nat) (k:Out→Fr→Prop):Out→Fr→Prop:=fun o F=>match o with
 | .norm=>sxL C T keep S c i F k
 | .ret=>k .ret F
 | .exit j=>k (.exit j) F
theorem xpc {C:Orac} {T:Tab} {keep:List (Nat×Bool)} {S:Sums} {i:Nat} {k:Out→Fr→Prop}:xuK C T keep S .skip i k=k:=by
 funext o F
 cases o<;>rfl
theorem xn3 {C:Orac} {T:Tab} {keep:List (Nat×Bool)} {S:Sums}:∀(n:Nat) (c:Code) (i:Nat) (F:Fr) (k:Out→Fr→Prop),xbN (xga n c)=0→sxL C T keep S c i F k=sxL C T keep S (xga n c) i F (xuK C T keep S (xj6 n c) i k)
 | 0,c,i,F,k,_=>rfl
 | n+1,c,i,F,k,h0=>by
  cases c with
  | seq a b =>
   have h1:xbN a+xbN (xga n b)=0:=h0
   have ha:xbN a=0:=by omega
   have e:∀F,sxL C T keep S b (i+xbN a) F k=sxL C T keep S (xga n b) (i+xbN a) F (xuK C T keep S (xj6 n b) (i+xbN a) k):=fun F=>xn3 n b (i+xbN a) F k (by omega)
   show sxL C T keep S a i F _=sxL C T keep S a i F _
   congr 1
   funext o F
   cases o with
   | norm =>
    show xiw T.win keep F _=xiw T.win keep F _
    congr 1
    funext F
    rw [e F]
    rw [ha]
    rfl
   | ret=>rfl
   | exit j=>rfl
  | _=>exact (congrArg (fun k=>sxL C T keep S _ i F k) xpc).symm
def hdQ:Code→Code
 | .seq a _=>a
 | c=>c
def tlQ:Code→Code
 | .seq _ b=>b
 | _=>.skip
def inQ:Code→Code
 | .block _ a=>a
 | c=>c
def xnJ (ks rs:List Nat) (kn:Fr→Prop) (ke:Nat→Fr→Prop) (k:Out→Fr→Prop):Out→Fr→Prop:=fun o F=>match o with
 | .norm=>kn F
 | .ret=>k .ret (xjy ks rs .ret F)
 | .exit e=>ke e F
def xrh (ks rs:List Nat) (k:Out→Fr→Prop):Nat→Fr→Prop:=fun e F=>k (.exit e) (xjy ks rs (.exit e) F)
def xuL (H He:Fr) (K:List PV→Prop):Fr→Prop:=fun F'=>match conv H F' with | some F1=>chk He F1 K | none=>False
theorem xp2 {B:Fr→(Out→Fr→Prop)→Prop} {k:Out→Fr→Prop} {ks rs:List Nat} {K:List PV→Prop} {F He:Fr} :
 xhB B (fun o F=>k o (xjy ks rs o F)) (fun F=>chk He F K) F=B F (xnJ ks rs (xuL F He K) (xrh ks rs k) k):=by
 unfold xhB xku
 exact congrArg (B F) (funext fun o=>funext fun F'=>by cases o<;>rfl)
theorem xew {C:Orac} {T:Tab} {keep:List (Nat×Bool)} {S:Sums} {ks rs:List Nat} {kn:Fr→Prop} {ke:Nat→Fr→Prop} {k:Out→Fr→Prop} {i:Nat} {F:Fr} (n:Nat) (c:Code) (h:xbN (xga n c)=0) :
 sxL C T keep S (xga n c) i F (xnJ ks rs (fun F=>sxL C T keep S (xj6 n c) i F (xnJ ks rs kn ke k)) ke k)=sxL C T keep S c i F (xnJ ks rs kn ke k):=by
 rw [xn3 n c i F _ h]
 exact congrArg (sxL C T keep S (xga n c) i F) (funext fun o=>funext fun F'=>by cases o<;>rfl)
theorem xoh {C:Orac} {T:Tab} {keep:List (Nat×Bool)} {S:Sums} {ks rs:List Nat} {kn:Fr→Prop} {k:Out→Fr→Prop} {i b:Nat} {F:Fr} (c:Code) (hc:c=.seq (hdQ c) (.seq (.block b (inQ (hdQ (tlQ c)))) (tlQ (tlQ c)))) (hA:xbN (hdQ c)=0) (hB:xbN (inQ (hdQ (tlQ c)))=0) :
 ∃ke,sxL C T keep S (.seq (hdQ c) .skip) i F (xnJ ks rs (fun F=>sxL C T keep S (inQ (hdQ (tlQ c))) i F (xnJ ks rs (fun F=>xiw T.win keep F fun F=>sxL C T keep S (tlQ (tlQ c)) i F (xnJ ks rs kn (xrh ks rs k) k)) ke k)) (xrh ks rs k) k)
  = sxL C T keep S c i F (xnJ ks rs kn (xrh ks rs k) k):=by
 revert hc hA hB
 generalize hdQ c=A
 generalize inQ (hdQ (tlQ c))=B
 generalize tlQ (tlQ c)=R
 intro hc hA hB
 subst hc
 refine ⟨fun e F=>if e=b then (xiw T.win keep F fun F=>sxL C T keep S R i F (xnJ ks rs kn (xrh ks rs k) k)) else xrh ks rs k e F,?_⟩
 simp only [sxL,sx,hA,hB,xbN,Nat.add_zero]
 refine congrArg (sxL C T keep S A i F) (funext fun o=>funext fun F=>?_)
 cases o with
 | norm =>
  simp only [xnJ]
  refine congrArg (xiw T.win keep F) (funext fun F=>?_)
  refine congrArg (sxL C T keep S B i F) (funext fun o=>funext fun F=>?_)
  cases o with
  | norm=>rfl
  | ret=>rfl
  | exit j =>
   simp only
   by_cases h:j=b
   ·simp [h,xnJ]
   ·simp [h,xnJ]
 | ret=>rfl
 | exit j=>rfl
def xd2 (T:Tab) (f:Nat):List RS:=match lk T.sig f with | some s=>s | none=>[]
theorem ok_ {P:Program} {T:Tab} (hT:xaz P T) {L:List Ent} (hL:xbA P T L) {f:Nat} {fn:Func} {keep:List (Nat×Bool)} {l:List LE} {g:GM} {cl:List Nat} (hf:P.funcs[f]? = some fn) (hS:xaC L T keep l fn l)
 (h:∀av k,g av k→xdi (orac T L (xbG l)) T keep l fn (xd2 T f) av k)
 (hn : (fn.name == "runtime.NumGoroutine") = false := by kernel_rfl) (hsg : lk T.sig f = some (xd2 T f) := by kernel_rfl) (hns : xhT (xd2 T f) = false := by kernel_rfl) : xfE P T ⟨f :: cl, g⟩ := xtq hT hL hf hn hsg hS h hns
theorem xwA {P:Program} {T:Tab} (hT:xaz P T) {L:List Ent} (hL:xbA P T L) {f:Nat} {fn:Func} {keep:List (Nat×Bool)} {l:List LE} {g:GM} {cl:List Nat} (hf:P.funcs[f]? = some fn) (hS:xaC L T.nofl keep l fn l)
 (h:∀av k,g av k→xdi (orac T.nofl L (xbG l)) T.nofl keep l fn (xd2 T f) av k)
 (hn : (fn.name == "runtime.NumGoroutine") = false := by kernel_rfl) (hsg : lk T.sig f = some (xd2 T f) := by kernel_rfl) (hns : xhT (xd2 T f) = false := by kernel_rfl) : xfE P T ⟨f :: cl, g⟩ := xr1 hT hL hf hn hsg hS h hns
theorem xwz {P:Program} {T:Tab} (hT:xaz P T) {L:List Ent} (hL:xbA P T L) {f:Nat} {fn:Func} {keep:List (Nat×Bool)} {l:List LE} {g:GM} {cl:List Nat} (hf:P.funcs[f]? = some fn) (hS:xaC L T.moving keep l fn l)
 (h:∀av k,g av k→xdi (orac T.moving L (xbG l)) T.moving keep l fn (xd2 T f) av k)
 (hn : (fn.name == "runtime.NumGoroutine") = false := by kernel_rfl) (hsg : lk T.sig f = some (xd2 T f) := by kernel_rfl) (hns : xhT (xd2 T f) = false := by kernel_rfl) : xfE P T ⟨f :: cl, g⟩ := xr0 hT hL hf hn hsg hS h hns
theorem xwx {P:Program} {T:Tab} (hT:xaz P T) {L:List Ent} (hL:xbA P T L) {f:Nat} {fn:Func} {keep:List (Nat×Bool)} {l:List LE} {g:GM} {cl:List Nat} (hf:P.funcs[f]? = some fn) (hS:xaC L T.wind keep l fn l)
 (h:∀av k,g av k→xdi (orac T.wind L (xbG l)) T.wind keep l fn (xd2 T f) av k)
 (hn : (fn.name == "runtime.NumGoroutine") = false := by kernel_rfl) (hsg : lk T.sig f = some (xd2 T f) := by kernel_rfl) (hns : xhT (xd2 T f) = false := by kernel_rfl) : xfE P T ⟨f :: cl, g⟩ := xrY hT hL hf hn hsg hS h hns
theorem xwy {P:Program} {T:Tab} (hT:xaz P T) {L:List Ent} (hL:xbA P T L) {f:Nat} {fn:Func} {keep:List (Nat×Bool)} {l:List LE} {g:GM} {cl:List Nat} (hf:P.funcs[f]? = some fn) (hS:xaC L T.shr keep l fn l)
 (h:∀av k,g av k→xdi (orac T.shr L (xbG l)) T.shr keep l fn (xd2 T f) av k)
 (hn : (fn.name == "runtime.NumGoroutine") = false := by kernel_rfl) (hsg : lk T.sig f = some (xd2 T f) := by kernel_rfl) (hns : xhT (xd2 T f) = false := by kernel_rfl) : xfE P T ⟨f :: cl, g⟩ := xrZ hT hL hf hn hsg hS h hns
theorem km {a b:Prop} (h:b) (e:a=b:=by kernel_rfl):a:=Eq.mpr e h
end Go.Ev
/- Functions that write a count: their entries. -/
namespace Go.Ev
open Go.RowKit
def gS (m:PV→Int→Option (PV×Int)):GM
 | [.one p,.one (.int .i64 k)],K=>rg64 k=true∧match m p k with | some (p',k')=>K [p',.int .i64 k'] | none=>False
 | _,_=>False
def gT (m:List PV→Int→Option (List PV×Int)):GM
 | [.agg ps,.one (.int .i64 k)],K=>rg64 k=true∧match m ps k with | some (ps',k')=>K (ps'++[.int .i64 k']) | none=>False
 | _,_=>False
theorem xr2 {P:Program} {T:Tab} {f:FuncId} {m:PV→Int→Option (PV×Int)} (h:xlA P f (.sl m)) (hsg:lk T.sig f=some [.agg []]):xfE P T ⟨[f],gS m⟩:=by
 intro f' av out hk hg sg hsg'
 injection hk with hk _
 subst hk
 rw [hsg] at hsg'
 injection hsg' with hsg'
 subst hsg'
 refine ⟨(fun e=>by cases e),fun _=>?_⟩
 change gS m av _ at hg
 unfold gS at hg
 split at hg
 ·rename_i p k K
  obtain ⟨hr,hg⟩:=hg
  split at hg
  ·rename_i p' k' hm
   subst hg
   obtain ⟨h1,h2,h3⟩:=h p k p' k' hm hr
   refine ⟨h1,.one p,[p],[p'],k,k',rfl,.inr ⟨p,rfl,rfl⟩,rfl,⟨p',[],rfl,h2,rfl⟩,fun w vs Ns _ hrep hnd hwr=>?_⟩
   obtain ⟨v,N,rfl,rfl,hv⟩:=hrep.one_inv
   simp only [List.flatten_cons,List.flatten_nil,List.append_nil] at hnd hwr ⊢
   exact (h3 w v N hv hnd hwr).mono fun e w' ⟨q1,q2,q3⟩=>⟨q1,q2,.one' q3⟩
  ·exact hg.elim
 ·exact hg.elim
theorem xul {P:Program} {T:Tab} {f:FuncId} {m:List PV→Int→Option (List PV×Int)} (h:xlA P f (.st m)) (hsg:lk T.sig f=some [.agg []]):xfE P T ⟨[f],gT m⟩:=by
 intro f' av out hk hg sg hsg'
 injection hk with hk _
 subst hk
 rw [hsg] at hsg'
 injection hsg' with hsg'
 subst hsg'
 refine ⟨(fun e=>by cases e),fun _=>?_⟩
 change gT m av _ at hg
 unfold gT at hg
 split at hg
 ·rename_i ps k K
  obtain ⟨hr,hg⟩:=hg
  split at hg
  ·rename_i ps' k' hm
   subst hg
   obtain ⟨h1,h2,h3⟩:=h ps k ps' k' hm hr
   exact ⟨h1,.agg ps,ps,ps',k,k',rfl,.inl rfl,rfl,h2,fun w vs Ns _ hrep hnd hwr=>h3 w vs Ns hrep hnd hwr⟩
  ·exact hg.elim
 ·exact hg.elim
theorem xrx {P:Program} {tx:FuncId} {mt:Int→ByteArray} (hE:∀w,Env w) (hf:xur P tx) (h:∀k,rg64 k=true→xgS P [.one .sc] tx [.one (.int .i64 k)] [.str (mt k)]):xgR P tx mt:=by
 refine ⟨hf,fun k hk w=>?_⟩
 obtain ⟨_,hcall⟩:=h k hk
 refine (hcall w (fun _=>False) [.int .i64 k] (hE w) (fun x h=>h.elim) ⟨_,[],rfl,xbp.int,rfl⟩).mono fun e w' ⟨v,S',no,cvs,he,hp⟩=>?_
 refine ⟨?_,hp.below⟩
 have h1:=hp.ret
 have h2:=hp.len
 match cvs,h2 with
 | [c],_ =>
  have h3:=hp.cells 0 .sc c rfl rfl
  have h4:c=.string (mt k):=xbp.str_inv h3
  rw [he,h1,h4]
  rfl
end Go.Ev
/- What the questions of values answer, as equations; loops over lists. -/
namespace Go.Ev
@[simp] theorem xaf (a:PV) (l:List PV):atP (a::l) 0=a:=rfl
@[simp] theorem xbl (a:PV) (l:List PV) (n:Nat):atP (a::l) (n+1)=atP l n:=rfl
attribute [simp] un cur0
section
variable (k : PV → Prop) (A B : Prop) (x y : IntKind) (m n : Int) (s t : ByteArray) (b c : Bool) (rows more : List (List PV)) (sz : Nat)
@[simp] theorem xbh:xac .add (.int x m) (.int x n) k=k (.int x (x.wrap (m+n))):=by simp [xac]
@[simp] theorem xbP:xac .sub (.int x m) (.int x n) k=k (.int x (x.wrap (m-n))):=by simp [xac]
@[simp] theorem xun:xac .mul (.int x m) (.int x n) k=k (.int x (x.wrap (m*n))):=by simp [xac]
@[simp] theorem xf5:xac .quo (.int x m) (.int x n) k=(n≠0∧k (.int x (x.wrap (m.tdiv n)))):=by simp [xac]
@[simp] theorem xcP:xac .rem (.int x m) (.int x n) k=(n≠0∧k (.int x (m.tmod n))):=by simp [xac]
@[simp] theorem xaD:xac .eql (.int x m) (.int x n) k=k (.bool (m==n)):=by simp [xac]
@[simp] theorem xbM:xac .neq (.int x m) (.int x n) k=k (.bool (m != n)):=by simp [xac]
@[simp] theorem xan:xac .lss (.int x m) (.int x n) k=k (.bool (decide (m<n))):=by simp [xac]
@[simp] theorem xhg:xac .leq (.int x m) (.int x n) k=k (.bool (decide (m≤n))):=by simp [xac]
@[simp] theorem xb3:xac .gtr (.int x m) (.int x n) k=k (.bool (decide (n<m))):=by simp [xac]
@[simp] theorem xb4:xac .geq (.int x m) (.int x n) k=k (.bool (decide (n≤m))):=by simp [xac]
theorem xfj (s:ByteArray):s.toList=s.data.toList:=by
 have key:∀(n i:Nat) (r:List UInt8),s.size-i=n→ByteArray.toList.loop s i r=r.reverse++s.data.toList.drop i:=by
  intro n
  induction n with
  | zero =>
   intro i r h
   unfold ByteArray.toList.loop
   rw [if_neg (by omega),List.drop_of_length_le (by rw [Array.length_toList,ByteArray.size_data];omega),List.append_nil]
  | succ n ih =>
   intro i r h
   unfold ByteArray.toList.loop
   rw [if_pos (by omega),ih (i+1) _ (by omega)]
   have hlt:i<s.data.toList.length:=by rw [Array.length_toList,ByteArray.size_data];omega
   rw [List.drop_eq_getElem_cons hlt]
   have:s.get! i=s.data.toList[i]:=by
    have h1:i<s.data.size:=by simpa using hlt
    show s.data[i]! = _
    rw [getElem!_pos s.data i h1,Array.getElem_toList]
   rw [this]
   simp
 have:=key s.size 0 [] (by omega)
 simpa [ByteArray.toList] using this
theorem xtt {s t:ByteArray}:s.data.toList=t.data.toList↔s=t:=by
 constructor
 ·intro h
  cases s;cases t
  simp at h
  rw [h]
 ·intro h;rw [h]
@[simp] theorem xil:xac .eql (.str s) (.str t) k=k (.bool (decide (s=t))):=by
 simp only [xac,xfj]
 congr 2
 by_cases h:s=t
 ·simp [h]
 ·simp [h]
  intro e;exact h (by cases s;cases t;simp at e;rw [e])
@[simp] theorem xdW:xac .neq (.str s) (.str t) k=k (.bool (!decide (s=t))):=by
 simp only [xac,xfj]
 congr 2
 by_cases h:s=t
 ·simp [h]
 ·simp [h]
  intro e;exact h (by cases s;cases t;simp at e;rw [e])
@[simp] theorem xlm:xen .eql (.bool b) (.bool c) k=k (.bool (b==c)):=rfl
@[simp] theorem xdV:xen .neq (.bool b) (.bool c) k=k (.bool (b != c)):=rfl
@[simp] theorem xa8:unP .not (.bool b) k=k (.bool !b):=rfl
@[simp] theorem xus:unP .neg (.int x m) k=k (.int x (x.wrap (0-m))):=rfl
@[simp] theorem xah:xad (.bool b) A B=if b=true then A else B:=rfl
@[simp] theorem xaG:xaH (.list sz rows) k=k (I rows.length):=rfl
@[simp] theorem xeB:xlV (.str s) k=k (I s.size):=rfl
@[simp] theorem xum:xmc y (.int x m) k=k (.int y (y.wrap m)):=rfl
@[simp] theorem xuD:xug (.int x m) (.int x n) k=k (.int x (if n<m then n else m)):=rfl
@[simp] theorem xuE:xuh (.int x m) (.int x n) k=k (.int x (if m<n then n else m)):=rfl
@[simp] theorem xtu:xlk (.str s) k=k (.list 1 (s.data.toList.map fun b=>[.int .u8 b.toNat])):=rfl
@[simp] theorem xuw:xux (.str s) k=k (.str s):=rfl
@[simp] theorem xuC (k:Nat→Prop):xg6 (.int x m) k=(0≤m∧k m.toNat):=rfl
def oP {α:Type} (o:Option α) (k:α→Prop):Prop:=match o with | some a=>k a | none=>False
@[simp] theorem xox {α:Type} (a:α) (k:α→Prop):oP (some a) k=k a:=rfl
@[simp] theorem xuB {α:Type} (k:α→Prop):oP none k=False:=rfl
@[simp] theorem xk8 {α:Type} (f:α→List PV) (l:List α) (k:List PV→Prop):xaj sz (.list sz (l.map f)) (.int x n) k=(0≤n∧oP l[n.toNat]? fun a=>k (f a)):=by
 simp only [xaj,true_and,List.getElem?_map]
 congr 1
 cases l[n.toNat]? <;> rfl
@[simp] theorem xtv (k:Nat→Prop):xdm sz (.list sz rows) (.int x n) k=(0≤n∧n.toNat<rows.length∧k n.toNat):=by simp [xdm]
@[simp] theorem xj8:xeI (.str s) (.int x n) k=(0≤n∧oP s.data.toList[n.toNat]? fun b=>k (.int .u8 b.toNat)):=by
 simp only [xeI]
 congr 1
 have:s[n.toNat]? = s.data.toList[n.toNat]? := by
  by_cases h:n.toNat<s.size
  ·rw [getElem?_pos s n.toNat h,List.getElem?_eq_getElem (by simpa using h)]
   simp [ByteArray.getElem_eq_getElem_data]
  ·rw [getElem?_neg s n.toNat h,List.getElem?_eq_none (by simpa using h)]
 rw [this]
 cases s.data.toList[n.toNat]? <;> rfl
@[simp] theorem xuJ (lo hi:Option Nat):xf8 sz (.list sz rows) lo hi k=(lo.getD 0≤hi.getD rows.length∧hi.getD rows.length≤rows.length∧k (.list sz ((rows.take (hi.getD rows.length)).drop (lo.getD 0)))):=by simp [xf8]
@[simp] theorem xig:xbd sz (.list sz rows) (.list sz more) k=(rows.length+more.length<1073741824∧k (.list sz (rows++more))):=by simp [xbd]
@[simp] theorem xt9 (r:List PV):xta sz (.list sz rows) r k=(rows.length<1073741824∧k (.list sz (rows++[r]))):=by simp [xta]
@[simp] theorem xui (z:List PV):xgW sz (.int x n) z k=(0≤n∧n.toNat<1073741824∧k (.list sz (List.replicate n.toNat z))):=rfl
@[simp] theorem xuy (i off:Nat) (cs:List PV):xmu (.list sz rows) i off cs k=oP rows[i]? fun r=>off+cs.length≤r.length∧k (.list sz (rows.set i (over r off cs))):=by
 simp only [xmu]
 cases rows[i]? <;> rfl
@[simp] theorem xua {α:Type} (f:α→List PV) (l:List α) (i:Nat) (k:List PV→Prop):xp1 sz (.list sz (l.map f)) i k=oP l[i]? fun a=>k (f a):=by
 simp only [xp1,true_and,List.getElem?_map]
 cases l[i]? <;> rfl
end
@[simp] theorem xao (x:IntKind) (n:Int):(PV.int x n).flat=true:=rfl
@[simp] theorem xar (b:Bool):(PV.bool b).flat=true:=rfl
@[simp] theorem xmU (s:ByteArray):(PV.str s).flat=true:=rfl
@[simp] theorem xkW:xae [] []=True:=by simp [xae]
@[simp] theorem xl8 (z p:PV) (zs cs:List Cell):xae (.pv z::zs) (.pv p::cs)=(p.flat=true∧xae zs cs):=by simp [xae]
@[simp] theorem xrW (z:PV) (b:Bool) (zs cs:List Cell):xae (.pv z::zs) (.kb b::cs)=xae zs cs:=by simp [xae]
@[simp] theorem xnC (e s:Nat) (c:Cell) (zs cs:List Cell):xae (.nil e s::zs) (c::cs)=xae zs cs:=by simp [xae]
@[simp] theorem xai:scs [] []=True:=by simp [scs]
@[simp] theorem xam (p:PV) (cks:List CK) (out:List PV):scs (.sc::cks) (p::out)=(p.flat=true∧scs cks out):=by simp [scs]
@[simp] theorem xdg (d:Bool) (e s:Nat) (p:PV) (cks:List CK) (out:List PV):scs (.own d e s::cks) (p::out)=scs cks out:=by simp [scs]
@[simp] theorem xn6 (p:PV) (cks:List CK) (out:List PV):scs (.pv::cks) (p::out)=scs cks out:=by simp [scs]
@[simp] theorem xav (cks:List CK) (out:List PV) (k:List PV→Prop):rt cks out k=(scs cks out∧k out):=rfl
theorem xaa {g:GM} {av:List AV} {out:List PV} (h:∀k,g av k↔k out) (k:List PV→Prop):call g av k=k out:=by
 show (∃o,g av (fun x=>x=o)∧k o)=k out
 apply propext
 constructor
 ·rintro ⟨o,h1,h2⟩
  have:=(h _).mp h1;subst this;exact h2
 ·intro h2;exact ⟨out,(h _).mpr rfl,h2⟩
abbrev wr (n:Int):Int:=IntKind.i64.wrap n
theorem xcn {n:Int} (h1:-9223372036854775808≤n) (h2:n<9223372036854775808):IntKind.i64.wrap n=n:=by
 rw [IntKind.wrap_i64];omega
@[simp] theorem xww (b:UInt8):IntKind.i64.wrap (b.toNat:Int)=b.toNat:=by
 have:=b.toNat_lt
 exact xcn (by omega) (by omega)
theorem xap {i:Nat} (h:i<1000000000000000000):IntKind.i64.wrap ((i:Int)+1)=(i:Int)+1:=xcn (by omega) (by omega)
theorem xaE {R:(List PV→Prop)→List PV→Prop} {v:List PV} {A:Prop} (h:∀K,R K v↔A):lp R v↔A:=by
 constructor
 ·rintro ⟨n,hn⟩
  cases n with
  | zero=>exact hn.elim
  | succ n=>exact (h _).mp hn
 ·intro ha
  exact ⟨1,(h (itP R 0)).mpr ha⟩
theorem xcm {R:(List PV→Prop)→List PV→Prop} {v v':List PV} (h:∀K,R K v↔K v'):lp R v↔lp R v':=by
 constructor
 ·rintro ⟨n,hn⟩
  cases n with
  | zero=>exact hn.elim
  | succ n=>exact ⟨n,(h _).mp hn⟩
 ·rintro ⟨n,hn⟩
  exact ⟨n+1,(h (itP R n)).mpr hn⟩
theorem xoD {R:(List PV→Prop)→List PV→Prop} {v:List PV} {fin:Prop} (n:Nat) (V:Nat→List PV) (hv:v=V 0) (h:∀i,i<n→∀K,R K (V i)↔K (V (i+1))) (hf:∀K,R K (V n)↔fin):lp R v↔fin:=by
 have key:∀m i,i+m=n→(lp R (V i)↔fin):=by
  intro m
  induction m with
  | zero=>intro i hi;rw [show i=n by omega];exact xaE hf
  | succ m ih=>intro i hi;rw [xcm (h i (by omega))];exact ih (i+1) (by omega)
 rw [hv]
 exact key n 0 (by omega)
theorem xbI {α:Type} {R:(List PV→Prop)→List PV→Prop} {v:List PV} {fin:Prop} (l:List α) (V:Nat→List PV) (hv:v=V 0) (h:∀i x,l[i]? = some x→i<l.length→∀K,R K (V i)↔K (V (i+1))) (hf:∀K,R K (V l.length)↔fin):lp R v↔fin :=
 xoD l.length V hv (fun i hi=>h i _ (List.getElem?_eq_getElem hi) hi) hf
def xe4 {α:Type} (p:Nat→α→Bool) (P:Nat→α→Prop) (fin:Prop):Nat→List α→Prop
 | _,[]=>fin
 | i,x::l=>if p i x=true then P i x else xe4 p P fin (i+1) l
theorem xhN {α:Type} {R:(List PV→Prop)→List PV→Prop} {v:List PV} {fin:Prop} (l:List α) (V:Nat→List PV) (p:Nat→α→Bool) (P:Nat→α→Prop) (hv:v=V 0)
 (h:∀i x,l[i]? = some x→∀K,R K (V i)↔if p i x=true then P i x else K (V (i+1))) (hf:∀K,R K (V l.length)↔fin):lp R v↔xe4 p P fin 0 l:=by
 have key:∀(m:List α) i,l.drop i=m→i≤l.length→(lp R (V i)↔xe4 p P fin i m):=by
  intro m
  induction m with
  | nil =>
   intro i hi hle
   have:l.length≤i:=by simpa using hi
   rw [show i=l.length by omega]
   exact xaE hf
  | cons x m ih =>
   intro i hi hle
   have hx:l[i]? = some x:=by
    have:=congrArg (·[0]?) hi
    simpa using this
   have hlt:i<l.length:=by
    rcases Nat.lt_or_ge i l.length with h' | h'
    ·exact h'
    ·rw [List.getElem?_eq_none h'] at hx;cases hx
   have hd:l.drop (i+1)=m:=by
    have:=congrArg List.tail hi
    simpa using this
   rw [xe4]
   by_cases hp:p i x=true
   ·rw [if_pos hp]
    exact xaE fun K=>by rw [h i x hx K,if_pos hp]
   ·rw [if_neg hp,xcm fun K=>by rw [h i x hx K,if_neg hp]]
    exact ih (i+1) hd hlt
 rw [hv]
 exact key l 0 (by simp) (by omega)
theorem xo3 {α:Type} (p:α→Bool) (P fin:Prop):∀(i:Nat) (l:List α),xe4 (fun _ x=>p x) (fun _ _=>P) fin i l=if l.any p=true then P else fin
 | _,[]=>by simp [xe4]
 | i,x::l=>by
  rw [xe4,xo3 p P fin (i+1) l]
  cases hp:p x<;>simp [hp]
abbrev rI (n:Int):List PV:=[I n]
abbrev ints (l:List Int):PV:=.list 1 (l.map rI)
abbrev rS (s:ByteArray):List PV:=[.str s]
abbrev strs (l:List ByteArray):PV:=.list 1 (l.map rS)
abbrev rB (b:UInt8):List PV:=[.int .u8 b.toNat]
abbrev byts (l:List UInt8):PV:=.list 1 (l.map rB)
theorem xa0 {α:Type} {l:List α} {i:Nat} {x:α} (h:l[i]? = some x):l.take (i+1)=l.take i++[x]:=by rw [List.take_add_one,h];rfl
theorem xaL {α:Type} {l:List α} {i:Nat} {x:α} (h:l[i]? = some x):i<l.length:=by
 rcases Nat.lt_or_ge i l.length with h' | h'
 ·exact h'
 ·rw [List.getElem?_eq_none h'] at h;cases h
end Go.Ev
/- Loops of the laws' own functions: making a copy, comparing, counting. -/
namespace Go.Ev
theorem xpQ {α:Type} (f:α→List PV) (z:List PV) (l:List α) {i:Nat} {x:α} (hx:l[i]? = some x) :
 ((l.take i).map f++List.replicate (l.length-i) z).set i (f x)=(l.take (i+1)).map f++List.replicate (l.length-(i+1)) z:=by
 have hi:=xaL hx
 have hlen:((l.take i).map f).length=i:=by simp;omega
 rw [List.set_append_right _ _ (by omega),hlen,Nat.sub_self,xa0 hx,show l.length-i=(l.length-(i+1))+1 by omega,List.replicate_succ,List.set_cons_zero,List.map_append,List.append_assoc]
 rfl
theorem xqq {α:Type} (f:α→List PV) (z:List PV) (l:List α) {i:Nat} (hi:i<l.length):((l.take i).map f++List.replicate (l.length-i) z)[i]? = some z:=by
 have hlen:((l.take i).map f).length=i:=by simp;omega
 rw [List.getElem?_append_right (by omega),hlen,Nat.sub_self,List.getElem?_replicate]
 simp;omega
theorem xkF {α:Type} {R:(List PV→Prop)→List PV→Prop} {fin:Prop} {v:List PV} (l:List α) (f g:α→List PV) (z:List PV) (sz sz':Nat) (dead:PV) (hv:v=[.list sz (l.map f),I 0,dead,.list sz' (List.replicate l.length z)])
 (h:∀i x,l[i]? = some x→i<l.length→∀K rows,rows.length=l.length→rows[i]? = some z→(R K [.list sz (l.map f),I i,dead,.list sz' rows]↔K [.list sz (l.map f),I ((i:Int)+1),dead,.list sz' (rows.set i (g x))]))
 (hf:∀K,R K [.list sz (l.map f),I l.length,dead,.list sz' (l.map g)]↔fin):lp R v↔fin:=by
 refine xbI l (fun i=>[.list sz (l.map f),I i,dead,.list sz' ((l.take i).map g++List.replicate (l.length-i) z)]) (by simp [hv]) (fun i x hx hi K=>?_) fun K=>?_
 ·refine (h i x hx hi K _ (by simp;omega) (xqq g z l hi)).trans ?_
  rw [xpQ g z l hx]
  simp
 ·simpa using hf K
theorem xez {α:Type} {R:(List PV→Prop)→List PV→Prop} {fin:Prop} {v:List PV} (l:List α) (f:α→List PV) (sz:Nat) (b:PV) (hv:v=[.list sz (l.map f),.list sz (l.map f),b,I 0])
 (h:∀i x,l[i]? = some x→i<l.length→∀K,(R K [.list sz (l.map f),.list sz (l.map f),b,I i]↔K [.list sz (l.map f),.list sz (l.map f),b,I ((i:Int)+1)]))
 (hf:∀K,R K [.list sz (l.map f),.list sz (l.map f),b,I l.length]↔fin):lp R v↔fin:=by
 refine xbI l (fun i=>[.list sz (l.map f),.list sz (l.map f),b,I i]) hv (fun i x hx hi K=>?_) hf
 exact (h i x hx hi K).trans (by simp)
def szr (s:Nat) (left:Int):Int:=if (s:Int)≤left then left-s else -1
def xbn {α:Type} (s:α→Nat):List α→Nat
 | []=>0
 | x::l=>s x+xbn s l
theorem xrP {α:Type} {R:(List PV→Prop)→List PV→Prop} {neg:Prop} {fin:Int→Prop} {v:List PV} (l:List α) (f:α→List PV) (sz:Nat) (s:α→Nat) (left:Int) (z:PV) (hl:0≤left) (hl2:left≤1048576) (hv:v=[.list sz (l.map f),I left,z,I 0])
 (h:∀i x,l[i]? = some x→i<l.length→∀(t:Int),0≤t→t≤1048576→∀K,(R K [.list sz (l.map f),I t,z,I i]↔if (s x:Int)≤t then K [.list sz (l.map f),I (t-s x),z,I ((i:Int)+1)] else neg))
 (hf:∀(t:Int) K,R K [.list sz (l.map f),I t,z,I l.length]↔fin t):lp R v↔if (xbn s l:Int)≤left then fin (left-xbn s l) else neg:=by
 have key:∀(m:List α) (i:Nat) (t:Int),l.drop i=m→i≤l.length→0≤t→t≤1048576→(lp R [.list sz (l.map f),I t,z,I i]↔if (xbn s m:Int)≤t then fin (t-xbn s m) else neg):=by
  intro m
  induction m with
  | nil =>
   intro i t hi hle h0 h1
   have:l.length≤i:=by simpa using hi
   have:i=l.length:=by omega
   subst this
   refine (xaE (hf t)).trans ?_
   simp [xbn,h0]
  | cons x m ih =>
   intro i t hi hle h0 h1
   have hx:l[i]? = some x:=by
    have:=congrArg (·[0]?) hi
    simpa using this
   have hlt:=xaL hx
   have hd:l.drop (i+1)=m:=by
    have:=congrArg List.tail hi
    simpa using this
   by_cases hs:(s x:Int)≤t
   ·refine (xcm fun K=>(h i x hx hlt t h0 h1 K).trans (by rw [if_pos hs])).trans ?_
    refine (ih (i+1) (t-s x) hd hlt (by omega) (by omega)).trans ?_
    rw [show xbn s (x::m)=s x+xbn s m from rfl]
    by_cases hm:(xbn s m:Int)≤t-s x
    ·rw [if_pos hm,if_pos (by omega)]
     rw [show t-(s x:Int)-(xbn s m:Int)=t-((s x+xbn s m:Nat):Int) by omega]
    ·rw [if_neg hm,if_neg (by omega)]
   ·refine (xaE fun K=>(h i x hx hlt t h0 h1 K).trans (by rw [if_neg hs])).trans ?_
    rw [show xbn s (x::m)=s x+xbn s m from rfl,if_neg (by omega)]
 rw [hv]
 exact key l 0 left (by simp) (by omega) hl hl2
def xff {α:Type} (p:Nat→α→Bool):Nat→List α→Bool
 | _,[]=>false
 | i,x::l=>p i x||xff p (i+1) l
theorem xjp {α:Type} (p:Nat→α→Bool) (P fin:Prop):∀(i:Nat) (l:List α),xe4 p (fun _ _=>P) fin i l=if xff p i l=true then P else fin
 | _,[]=>by simp [xe4,xff]
 | i,x::l=>by
  rw [xe4,xjp p P fin (i+1) l,xff]
  cases hp:p i x<;>simp
theorem xpp {α:Type} (p q:Nat→α→Bool):∀(i:Nat) (l:List α),xff (fun i x=>p i x||q i x) i l=(xff p i l||xff q i l)
 | _,[]=>rfl
 | i,x::l=>by
  rw [xff,xff,xff,xpp p q (i+1) l]
  cases p i x<;>cases q i x<;>cases xff p (i+1) l<;>cases xff q (i+1) l<;>rfl
theorem xe0 {α:Type} (p:α→Bool):∀(i:Nat) (l:List α),xff (fun _ x=>p x) i l=l.any p
 | _,[]=>rfl
 | i,x::l=>by rw [xff,xe0 p (i+1) l,List.any_cons]
theorem xeZ {α:Type} {p:Nat→α→Bool}:∀{i:Nat} {l:List α},xff p i l=false↔∀j x,l[j]? = some x→p (i+j) x=false
 | i,[]=>by simp [xff]
 | i,y::l=>by
  rw [xff,Bool.or_eq_false_iff,xeZ (i:=i+1) (l:=l)]
  constructor
  ·rintro ⟨h1,h2⟩ j x hx
   cases j with
   | zero=>simp at hx;subst hx;exact h1
   | succ j =>
    have:=h2 j x (by simpa using hx)
    rw [show i+(j+1)=i+1+j by omega];exact this
  ·intro h
   refine ⟨by simpa using h 0 y (by simp),fun j x hx=>?_⟩
   have:=h (j+1) x (by simpa using hx)
   rw [show i+1+j=i+(j+1) by omega];exact this
theorem xjN {α:Type} {R:(List PV→Prop)→List PV→Prop} {v:List PV} {P fin:Prop} (l:List α) (V:Nat→List PV) (p:Nat→α→Bool) (hv:v=V 0)
 (h:∀i x,l[i]? = some x→i<l.length→∀K,R K (V i)↔if p i x=true then P else K (V (i+1))) (hf:∀K,R K (V l.length)↔fin):lp R v↔if xff p 0 l=true then P else fin:=by
 rw [←xjp]
 exact xhN l V p (fun _ _=>P) hv (fun i x hx=>h i x hx (xaL hx)) hf
theorem xoF {α:Type} {R:(List PV→Prop)→List PV→Prop} {v:List PV} {P fin:Prop} (l:List α) (V:Nat→List PV) (p:α→Bool) (hv:v=V 0)
 (h:∀i x,l[i]? = some x→i<l.length→∀K,R K (V i)↔if p x=true then P else K (V (i+1))) (hf:∀K,R K (V l.length)↔fin):lp R v↔if l.any p=true then P else fin:=by
 rw [←xe0 p 0 l]
 exact xjN l V (fun _ x=>p x) hv h hf
def xeH {α:Type} (p:α→Bool):Nat→List α→Int
 | _,[]=>-1
 | i,x::l=>if p x=true then (i:Int) else xeH p (i+1) l
def idx {α:Type} (p:α→Bool) (l:List α):Int:=xeH p 0 l
theorem xjo {α:Type} (p:α→Bool) (Q:Int→Prop):∀(i:Nat) (l:List α),xe4 (fun _ x=>p x) (fun i _=>Q i) (Q (-1)) i l=Q (xeH p i l)
 | _,[]=>rfl
 | i,x::l=>by
  rw [xe4,xjo p Q (i+1) l,xeH]
  split<;>rfl
theorem xkZ {α:Type} (p:α→Bool):∀(i:Nat) (l:List α),decide (0≤xeH p i l)=l.any p
 | _,[]=>by simp [xeH]
 | i,x::l=>by
  rw [xeH,List.any_cons]
  cases hp:p x
  ·simp [xkZ p (i+1) l]
  ·simp
theorem xl1 {α:Type} (p:α→Bool) (l:List α):decide (0≤idx p l)=l.any p:=xkZ p 0 l
theorem xnD {α:Type} {p:α→Bool}:∀{i:Nat} {l:List α},0≤xeH p i l→∃j x,xeH p i l=((i+j:Nat):Int)∧l[j]? = some x∧p x=true∧∀k y,k<j→l[k]? = some y→p y=false
 | i,[],h=>by simp [xeH] at h
 | i,x::l,h=>by
  rw [xeH] at h ⊢
  split
  ·rename_i hp;exact ⟨0,x,by simp,by simp,hp,by omega⟩
  ·rename_i hp
   rw [if_neg hp] at h
   obtain ⟨j,y,h1,h2,h3,h4⟩:=xnD h
   refine ⟨j+1,y,by rw [h1];congr 1;omega,by simpa using h2,h3,fun k z hk hz=>?_⟩
   cases k with
   | zero=>simp at hz;subst hz;simpa using hp
   | succ k=>exact h4 k z (by omega) (by simpa using hz)
theorem xfs {α:Type} {R:(List PV→Prop)→List PV→Prop} {v:List PV} {Q:Int→Prop} (l:List α) (V:Nat→List PV) (p:α→Bool) (hv:v=V 0)
 (h:∀i x,l[i]? = some x→i<l.length→∀K,R K (V i)↔if p x=true then Q i else K (V (i+1))) (hf:∀K,R K (V l.length)↔Q (-1)):lp R v↔Q (idx p l):=by
 have:=xhN l V (fun _ x=>p x) (fun i _=>Q i) hv (fun i x hx=>h i x hx (xaL hx)) hf
 rwa [xjo] at this
def xdk {α β:Type} (eq:α→β→Bool):List α→List β→Bool
 | [],[]=>true
 | x::l,y::m=>eq x y&&xdk eq l m
 | _,_=>false
theorem xnw {α β:Type} {eq:α→β→Bool}:∀{l:List α} {m:List β},l.length≠m.length→xdk eq l m=false
 | [],[],h=>absurd rfl h
 | x::l,y::m,h=>by
  rw [xdk,xnw (l:=l) (m:=m) (by simpa using h),Bool.and_false]
 | [],_::_,_=>rfl
 | _::_,[],_=>rfl
theorem xtk {α β:Type} {R:(List PV→Prop)→List PV→Prop} {v:List PV} {P fin:Prop} (l:List α) (m:List β) (V:Nat→List PV) (eq:α→β→Bool) (hv:v=V 0) (hlen:l.length=m.length)
 (h:∀i x y,l[i]? = some x→m[i]? = some y→i<l.length→∀K,R K (V i)↔if eq x y=true then K (V (i+1)) else P) (hf:∀K,R K (V l.length)↔fin):lp R v↔if xdk eq l m=true then fin else P:=by
 have key:∀(l':List α) (m':List β) i,l.drop i=l'→m.drop i=m'→i≤l.length→(lp R (V i)↔if xdk eq l' m'=true then fin else P):=by
  intro l'
  induction l' with
  | nil =>
   intro m' i h1 h2 hle
   have h3:l.length≤i:=by simpa using h1
   have h4:m'=[]:=by rw [←h2];simp;omega
   subst h4
   rw [show i=l.length by omega]
   simpa [xdk] using xaE hf
  | cons x l' ih =>
   intro m' i h1 h2 hle
   have hx:l[i]? = some x:=by
    have:=congrArg (·[0]?) h1
    simpa using this
   have hlt:=xaL hx
   have hd:l.drop (i+1)=l':=by
    have:=congrArg List.tail h1
    simpa using this
   have hlt2:i<m.length:=by omega
   cases m' with
   | nil=>simp at h2;omega
   | cons y m' =>
    have hy:m[i]? = some y:=by
     have:=congrArg (·[0]?) h2
     simpa using this
    have hd2:m.drop (i+1)=m':=by
     have:=congrArg List.tail h2
     simpa using this
    rw [xdk]
    by_cases he:eq x y=true
    ·rw [he,Bool.true_and]
     exact (xcm fun K=>(h i x y hx hy hlt K).trans (by rw [if_pos he])).trans (ih m' (i+1) hd hd2 hlt)
    ·have he':eq x y=false:=by simpa using he
     rw [he',Bool.false_and]
     simpa using xaE fun K=>(h i x y hx hy hlt K).trans (by rw [if_neg he])
 rw [hv]
 exact key l m 0 (by simp) (by simp) (by omega)
theorem xgl {α β:Type} {R:(List PV→Prop)→List PV→Prop} {v:List PV} (k:List PV→Prop) (l:List α) (m:List β) (V:Nat→List PV) (eq:α→β→Bool) (hv:v=V 0) (hlen:l.length=m.length)
 (h:∀i x y,l[i]? = some x→m[i]? = some y→i<l.length→i<m.length→∀K,R K (V i)↔if eq x y=true then K (V (i+1)) else k [.bool false]) (hf:∀K,R K (V l.length)↔k [.bool true]):lp R v↔k [.bool (xdk eq l m)]:=by
 refine (xtk (P:=k [.bool false]) (fin:=k [.bool true]) l m V eq hv hlen (fun i x y hx hy hi=>h i x y hx hy hi (by omega)) hf).trans ?_
 cases xdk eq l m<;>simp
theorem xg9 {α:Type} {R:(List PV→Prop)→List PV→Prop} {v:List PV} (k:List PV→Prop) (b:Bool) (l:List α) (V:Nat→List PV) (p:Nat→α→Bool) (hv:v=V 0)
 (h:∀i x,l[i]? = some x→i<l.length→∀K,R K (V i)↔if p i x=true then k [.bool b] else K (V (i+1))) (hf:∀K,R K (V l.length)↔k [.bool (!b)]):lp R v↔k [.bool (xff p 0 l==b)]:=by
 refine (xjN (P:=k [.bool b]) (fin:=k [.bool (!b)]) l V p hv h hf).trans ?_
 cases xff p 0 l<;>cases b<;>simp
theorem xrQ {α:Type} {R:(List PV→Prop)→List PV→Prop} {v:List PV} (k:List PV→Prop) (b:Bool) (l:List α) (V:Nat→List PV) (p:α→Bool) (hv:v=V 0)
 (h:∀i x,l[i]? = some x→i<l.length→∀K,R K (V i)↔if p x=true then k [.bool b] else K (V (i+1))) (hf:∀K,R K (V l.length)↔k [.bool (!b)]):lp R v↔k [.bool (l.any p==b)]:=by
 rw [←xe0 p 0 l]
 exact xg9 k b l V (fun _ x=>p x) hv h hf
theorem xep {n:Nat} {left:Int} (h1:n≤maxLen) (h2:0≤left) (h3:left≤1048576):IntKind.i64.wrap (left-n)=left-n:=by
 have h4:n≤9223372036854775807:=h1
 exact xcn (by omega) (by omega)
end Go.Ev
/- From a call's debt to a row: whatever the arguments, they read as pure values. -/
namespace Go.Ev
open Go.RowKit Go.ChangeShapes
inductive Sh where
 | int (k:IntKind)
 | bool
 | str
 | list (es:List Sh)
mutual
def Sh.has:Sh→PV→Prop
 | .int k,p=>∃n,p=.int k n∧(Lit.int k n).wf=true
 | .bool,p=>∃b,p=.bool b
 | .str,p=>∃s,p=.str s∧s.size≤maxLen
 | .list es,p=>∃rows,p=.list es.length rows∧rows.length≤maxLen∧∀r∈rows,Sh.hasAll es r
def Sh.hasAll:List Sh→List PV→Prop
 | [],ps=>ps=[]
 | e::es,ps=>∃p r,ps=p::r∧Sh.has e p∧Sh.hasAll es r
end
theorem xdS:∀{es:List Sh} {ps:List PV},Sh.hasAll es ps→ps.length=es.length
 | [],ps,h=>by
  have:ps=[]:=by simpa [Sh.hasAll] using h
  subst this;rfl
 | e::es,ps,h=>by
  simp only [Sh.hasAll] at h
  obtain ⟨p,r,rfl,_,h2⟩:=h
  simp [xdS h2]
theorem xfW:∀{es fs:List Sh} {ps qs:List PV},Sh.hasAll es ps→Sh.hasAll fs qs→Sh.hasAll (es++fs) (ps++qs)
 | [],fs,ps,qs,h,k=>by
  have:ps=[]:=by simpa [Sh.hasAll] using h
  subst this;exact k
 | e::es,fs,ps,qs,h,k=>by
  simp only [Sh.hasAll] at h
  obtain ⟨p,r,rfl,h1,h2⟩:=h
  simp only [List.cons_append,Sh.hasAll]
  exact ⟨p,_,rfl,h1,xfW h2 k⟩
def xfJ (P:Program) (g:TypeId→Option (List Sh)) (total:Nat):Nat→List Field→Option (List Sh)
 | off,[]=>if off=total then some [] else none
 | off,f::fs=>if f.offset=off then match g f.type with
  | some s=>if s.length=P.cellsOf f.type then (xfJ P g total (off+s.length) fs).map (s++·) else none
  | none=>none
  else none
def shs (P:Program):Nat→TypeId→Option (List Sh)
 | 0,_=>none
 | n+1,t=>match P.underlying t with
  | some .bool=>some [.bool]
  | some (.int k)=>some [.int k]
  | some .string=>some [.str]
  | some (.slice e)=>match shs P n e with
   | some es=>if es.length=P.cellsOf e∧es.length≠0 then some [.list es] else none
   | none=>none
  | some (.struct fs)=>xfJ P (shs P n) (P.cellsOf t) 0 fs.toList
  | _=>none
theorem xgj {α:Type} {g:Nat→Option α}:∀{l:List Nat} {r:List α},l.mapM g=some r→r.length=l.length∧∀i,i<l.length→∃x,g (l.getD i 0)=some x∧r[i]? = some x
 | [],r,h=>by simp at h;subst h;exact ⟨rfl,fun i hi=>by simp at hi⟩
 | a::l,r,h=>by
  rw [List.mapM_cons] at h
  simp only [Option.bind_eq_bind,Option.bind_eq_some_iff,Option.pure_def,Option.some.injEq] at h
  obtain ⟨x,h1,ys,h2,rfl⟩:=h
  obtain ⟨h3,h4⟩:=xgj h2
  refine ⟨by simp [h3],fun i hi=>?_⟩
  cases i with
  | zero=>exact ⟨x,h1,rfl⟩
  | succ i=>obtain ⟨y,h5,h6⟩:=h4 i (by simpa using hi);exact ⟨y,by simpa using h5,by simpa using h6⟩
theorem xmL {α β:Type} {g:α→Option β}:∀{l:List α} {r:List β},l.mapM g=some r→∀a∈l,∃x,g a=some x
 | [],r,h,a,ha=>by cases ha
 | b::l,r,h,a,ha=>by
  rw [List.mapM_cons] at h
  simp only [Option.bind_eq_bind,Option.bind_eq_some_iff,Option.pure_def,Option.some.injEq] at h
  obtain ⟨x,h1,ys,h2,rfl⟩:=h
  rcases List.mem_cons.1 ha with rfl | ha
  ·exact ⟨x,h1⟩
  ·exact xmL h2 a ha
section
variable {P : Program} {w : World} {H : Type} {enc : TypeId × Value → H} {base : Nat} {spare : Nat → Bool} {held : Bool}
theorem xm7 {a:Addr} {n:Nat} {cs:List Value} (h:w.cells? base a n=some cs):cs.length=n∧∀j u,cs[j]? = some u→w.cell? (a.add j)=some u:=by
 unfold World.cells? at h
 split at h
 ·obtain ⟨h1,h2⟩:=xgj h
  refine ⟨by simpa using h1,fun j u hj=>?_⟩
  have hlt:j<n:=by
   rcases Nat.lt_or_ge j cs.length with h' | h'
   ·rw [h1] at h';simpa using h'
   ·simp [List.getElem?_eq_none h'] at hj
  obtain ⟨x,h3,h4⟩:=h2 j (by simpa using hlt)
  rw [hj] at h4
  injection h4 with h4
  subst h4
  have:(List.range n).getD j 0=j:=by simp [List.getD,hlt]
  rw [this] at h3
  exact h3
 ·cases h
theorem xph {a:Addr} {u:Value} (h:w.cell? a=some u):a.spot=none:=by
 unfold World.cell? at h
 split at h
 ·split at h
  ·cases h
  ·rename_i hs;simpa using hs
 ·cases h
theorem xh6 {g:TypeId→Option (List Sh)} {rd:TypeId→List Value→Option (DataW H×List MemPlace)} {total:Nat} {cs:List Value} (hlen:cs.length=total)
 (ih:∀t cs x es,rd t cs=some x→g t=some es→∃pvs N,xak w pvs cs N∧Sh.hasAll es pvs):∀(fs:List Field) (off:Nat) (es:List Sh),xfJ P g total off fs=some es →
 (∀f∈fs,∃x,rd f.type ((cs.drop f.offset).take (P.cellsOf f.type))=some x)→off≤total→∃pvs N,xak w pvs (cs.drop off) N∧Sh.hasAll es pvs
 | [],off,es,h,_,_=>by
  simp only [xfJ] at h
  split at h
  ·rename_i he
   injection h with h
   subst h
   rw [List.drop_of_length_le (by omega)]
   exact ⟨[],[],.nil,by simp [Sh.hasAll]⟩
  ·cases h
 | f::fs,off,es,h,hr,hoff=>by
  simp only [xfJ] at h
  split at h
  ·rename_i ho
   split at h
   ·rename_i s hs
    split at h
    ·rename_i hsl
     obtain ⟨es',h1,rfl⟩:=Option.map_eq_some_iff.1 h
     obtain ⟨x,hx⟩:=hr f (by simp)
     obtain ⟨p1,N1,k1,k2⟩:=ih _ _ _ _ hx hs
     have hl1:=k1.len
     have hl2:=xdS k2
     have hfit:off+s.length≤total:=by
      rw [List.length_take,List.length_drop] at hl1
      omega
     obtain ⟨p2,N2,k3,k4⟩:=xh6 hlen ih fs (off+s.length) es' h1 (fun f hf=>hr f (by simp [hf])) hfit
     refine ⟨p1++p2,N1++N2,?_,xfW k2 k4⟩
     have:cs.drop off=(cs.drop f.offset).take (P.cellsOf f.type)++cs.drop (off+s.length):=by
      rw [ho,←hsl,←List.drop_drop,List.take_append_drop]
     rw [this]
     exact k1.append k3
    ·cases h
   ·cases h
  ·cases h
theorem xiT {es:List Sh} {e:TypeId} {a:Addr} {rd:List Value→Option (DataW H×List MemPlace)} (hsz:es.length=P.cellsOf e) (h0:es.length≠0)
 (ih:∀cs x,rd cs=some x→∃pvs N,xak w pvs cs N∧Sh.hasAll es pvs):∀(k len:Nat),k≤len→(∀i,i<len→∃x,(w.cells? base (a.add (i*P.cellsOf e)) (P.cellsOf e)).bind rd=some x) →
 ∃(rows:List (List PV)) (xs:List Value) (N:List Nat),rows.length=k∧(∀r∈rows,Sh.hasAll es r)∧xak w rows.flatten xs N∧xs.length=k*es.length∧(0<k→a.spot=none)∧∀j u,xs[j]? = some u→w.cell? ⟨a.block,a.off+j,none⟩=some u
 | 0,len,_,_=>⟨[],[],[],rfl,by simp,.nil,by simp,by simp,by simp⟩
 | k+1,len,hk,hall=>by
  obtain ⟨rows,xs,N,h1,h2,h3,h4,h5,h6⟩:=xiT hsz h0 ih k len (by omega) hall
  obtain ⟨x,hx⟩:=hall k (by omega)
  obtain ⟨cs,hc,hrd⟩:=Option.bind_eq_some_iff.1 hx
  obtain ⟨c1,c2⟩:=xm7 hc
  obtain ⟨pvs,N2,r1,r2⟩:=ih cs x hrd
  have hl:=r1.len
  have hpl:=xdS r2
  have hspot:a.spot=none:=by
   obtain ⟨x0,hx0⟩:=hall 0 (by omega)
   obtain ⟨cs0,hc0,_⟩:=Option.bind_eq_some_iff.1 hx0
   obtain ⟨d1,d2⟩:=xm7 hc0
   have:0<cs0.length:=by omega
   have h7:=xph (d2 0 cs0[0] (by simp [this]))
   simpa [Addr.add] using h7
  have ha:a=⟨a.block,a.off,none⟩:=by cases a;simp at hspot;subst hspot;rfl
  refine ⟨rows++[pvs],xs++cs,N++N2,by simp [h1],fun r hr=>?_,?_,?_,fun _=>hspot,fun j u hj=>?_⟩
  ·rcases List.mem_append.1 hr with hr | hr
   ·exact h2 r hr
   ·simp at hr;subst hr;exact r2
  ·rw [List.flatten_append,List.flatten_singleton];exact h3.append r1
  ·rw [List.length_append,h4,Nat.succ_mul];omega
  ·rcases Nat.lt_or_ge j xs.length with hj' | hj'
   ·rw [List.getElem?_append_left hj'] at hj;exact h6 j u hj
   ·rw [List.getElem?_append_right hj'] at hj
    have:=c2 _ u hj
    rw [ha,xeL,xeL] at this
    have e:a.off+k*P.cellsOf e+(j-xs.length)=a.off+j:=by rw [h4,hsz] at *;omega
    rwa [e] at this
theorem xlK:∀(n m:Nat) (t:TypeId) (cs:List Value) (x:DataW H×List MemPlace) (es:List Sh),DataW.trod enc P w base spare held m t cs=some x→shs P n t=some es→∃pvs N,xak w pvs cs N∧Sh.hasAll es pvs
 | 0,m,t,cs,x,es,_,h=>by simp [shs] at h
 | n+1,0,t,cs,x,es,h,_=>by simp [DataW.trod] at h
 | n+1,m+1,t,cs,x,es,h,hs=>by
  simp only [shs] at hs
  unfold DataW.trod at h
  split at hs
  ·rename_i hu
   injection hs with hs;subst hs
   simp only [hu] at h
   split at h<;>first | (simp at *;done) | skip
   exact ⟨[.bool _],[],.bool .nil,by simp [Sh.hasAll,Sh.has]⟩
  ·rename_i k hu
   injection hs with hs;subst hs
   simp only [hu] at h
   split at h<;>first | (simp at *;done) | skip
   rename_i heq
   injection heq with heq
   injection heq with heq
   subst heq
   split at h
   ·rename_i hc
    obtain ⟨rfl,hw⟩:=hc
    exact ⟨[.int _ _],[],.int .nil,by simp [Sh.hasAll,Sh.has,hw]⟩
   ·cases h
  ·rename_i hu
   injection hs with hs;subst hs
   simp only [hu] at h
   split at h<;>first | (simp at *;done) | skip
   split at h
   ·rename_i hc
    exact ⟨[.str _],[],.str .nil,by simp [Sh.hasAll,Sh.has,hc]⟩
   ·cases h
  ·rename_i e hu
   split at hs
   ·rename_i es' hes
    split at hs
    ·rename_i hc
     injection hs with hs;subst hs
     simp only [hu] at h
     split at h<;>first | (simp at *;done) | skip
     ·exact ⟨[.list es'.length []],[],.lnil .nil,by simp [Sh.hasAll,Sh.has]⟩
     ·rename_i heq
      injection heq with heq
      injection heq with heq
      subst heq
      split at h
      ·rename_i a len cap hb
       obtain ⟨elems,he,h⟩:=Option.bind_eq_some_iff.1 h
       obtain ⟨hl,hat⟩:=xgj he
       obtain ⟨rows,xs,N,r1,r2,r3,r4,r5,r6⟩:=xiT (w:=w) (base:=base) (a:=a) hc.1 hc.2 (fun cs x h=>xlK n m e cs x es' h hes) len len (Nat.le_refl _) (fun i hi=>by
        obtain ⟨x,h1,_⟩:=hat i (by simpa using hi)
        exact ⟨x,by simpa [List.getD,hi] using h1⟩)
       have hhas:Sh.hasAll [Sh.list es'] [PV.list es'.length rows]:=by
        simp only [Sh.hasAll,Sh.has]
        exact ⟨_,[],rfl,⟨rows,rfl,by omega,r2⟩,rfl⟩
       by_cases h0:rows=[]
       ·subst h0
        have:len=0:=by simpa using r1.symm
        subst this
        exact ⟨[.list es'.length []],[],.lnil .nil,hhas⟩
       ·have hpos:0<len:=by
         rw [←r1];exact List.length_pos_iff.2 h0
        have hsp:=r5 hpos
        refine ⟨[.list es'.length rows],a.block::(N++[]),?_,hhas⟩
        have:=xak.list (w:=w) (sz:=es'.length) (rows:=rows) (b:=a.block) (off:=a.off) (cap:=cap) (xs:=xs) (N1:=N) (ps:=[]) (vs:=[]) (N2:=[]) (Nat.pos_of_ne_zero hc.2) h0 (fun q hq=>xdS (r2 q hq)) (by omega) r6 r3 .nil
        rw [r1] at this
        have ha:a=⟨a.block,a.off,none⟩:=by cases a;simp at hsp;subst hsp;rfl
        rw [ha]
        exact this
      ·cases h
    ·cases hs
   ·cases hs
  ·rename_i fs hu
   simp only [hu] at h
   split at h
   ·rename_i hlen
    obtain ⟨xs,h1,_⟩:=Option.map_eq_some_iff.1 h
    have:=xh6 (w:=w) (P:=P) (rd:=DataW.trod enc P w base spare held m) hlen (fun t cs x es h1 h2=>xlK n m t cs x es h1 h2) _ 0 es hs (xmL h1) (Nat.zero_le _)
    simpa using this
   ·cases h
  ·cases hs
def xcW (P:Program) (t:TypeId):Bool:=match P.underlying t with | some (.struct _)=>true | some (.array _ _)=>true | _=>false
def xuo (P:Program) (t:TypeId) (pvs:List PV):AV:=if xcW P t=true then .agg pvs else .one (atP pvs 0)
def xiM (P:Program):List TypeId→List (List PV)→List AV
 | t::ts,p::ps=>xuo P t p::xiM P ts ps
 | _,_=>[]
def xc8:List (List Sh)→List (List PV)→Prop
 | [],ps=>ps=[]
 | e::es,ps=>∃p r,ps=p::r∧Sh.hasAll e p∧xc8 es r
theorem xlg {t:TypeId} {v:Value} {r:Reach} {b0:Nat} (hns:xcW P t=false) (hval:Value.okWide P w r b0 t v):Cell.okWide P w r b0 t v:=by
 unfold Value.okWide at hval
 unfold xcW at hns
 split at hval
 ·rename_i h;rw [h] at hns;simp at hns
 ·rename_i h;rw [h] at hns;simp at hns
 ·exact hval
theorem xqd {n:Nat} {t:TypeId} {v:Value} {d:DataW H} {p:List MemPlace} {es:List Sh} {r:Reach} {b0:Nat} (hval:Value.okWide P w r b0 t v) (h:DataW.Trod enc P w base spare held t v d p) (hs:shs P n t=some es) (h1:xcW P t=true∨es.length=1) :
 ∃pvs,Sh.hasAll es pvs∧xpy (fun x=>x<w.heap.size) w (xuo P t pvs) v:=by
 obtain ⟨fuel,hf⟩:=h
 obtain ⟨pvs,N,k1,k2⟩:=xlK n fuel t _ _ es hf hs
 refine ⟨pvs,k2,?_⟩
 unfold xuo
 split
 ·rename_i hst
  unfold Value.okWide at hval
  unfold xcW at hst
  split at hval
  ·obtain ⟨cs,rfl,_⟩:=hval
   exact ⟨cs.toList,by simp,N,by simpa [Value.cells] using k1,k1.bound⟩
  ·obtain ⟨cs,rfl,_⟩:=hval
   exact ⟨cs.toList,by simp,N,by simpa [Value.cells] using k1,k1.bound⟩
  ·rename_i hn1 hn2
   split at hst
   ·rename_i fs h;exact absurd h (hn1 fs)
   ·rename_i k e h;exact absurd h (hn2 k e)
   ·cases hst
 ·rename_i hst
  have hl:es.length=1:=h1.resolve_left hst
  have hpl:=xdS k2
  rw [hl] at hpl
  match pvs,hpl with
  | [p],_ =>
   have hvl:=k1.len
   have hone:=k1.one
   have hcell:v.cells=#[v]:=by
    cases v with
    | agg cs =>
     exfalso
     have h2:=xlg (by simpa using hst) hval
     unfold Cell.okWide at h2
     cases hu:P.underlying t with
     | none=>simp [hu,Cell.ok] at h2
     | some ds=>cases ds<;>simp [hu,Cell.ok] at h2
    | _=>rfl
   rw [hcell] at k1
   exact ⟨N,k1,k1.bound⟩
theorem xhK {n:Nat} {b0:Nat}:∀{ts:List TypeId} {vs:List Value} {ds:List (DataW H)} {p:List MemPlace} {ess:List (List Sh)},DataW.TrodAll enc P w base spare held ts vs ds p →
 (∀(j:Nat) t v,ts[j]? = some t→vs[j]? = some v→Value.okWide P w .any b0 t v)→ts.mapM (shs P n)=some ess→(∀t∈ts,∀es,shs P n t=some es→xcW P t=true∨es.length=1) →
 ds.length=ts.length∧∃pvss,xc8 ess pvss∧xdY (fun x=>x<w.heap.size) w (xiM P ts pvss) vs
 | [],[],[],p,ess,_,_,hm,_=>by
  simp at hm
  subst hm
  exact ⟨rfl,[],rfl,rfl⟩
 | t::ts,v::vs,d::ds,p,ess,⟨p1,q,h1,h2,_⟩,hval,hm,hone=>by
  rw [List.mapM_cons] at hm
  simp only [Option.bind_eq_bind,Option.bind_eq_some_iff,Option.pure_def,Option.some.injEq] at hm
  obtain ⟨es,e1,ess',e2,rfl⟩:=hm
  obtain ⟨pvs,k1,k2⟩:=xqd (hval 0 t v rfl rfl) h1 e1 (hone t (by simp) es e1)
  obtain ⟨hl,pvss,k3,k4⟩:=xhK h2 (fun j t v hj hv=>hval (j+1) t v (by simpa using hj) (by simpa using hv)) e2 (fun t ht=>hone t (by simp [ht]))
  exact ⟨by simp [hl],pvs::pvss,⟨pvs,pvss,rfl,k1,k3⟩,⟨v,vs,rfl,k2,k4⟩⟩
 | [],_::_,_,_,_,h,_,_,_=>h.elim
 | [],[],_::_,_,_,h,_,_,_=>h.elim
 | _::_,[],_,_,_,h,_,_,_=>h.elim
 | _::_,_::_,[],_,_,h,_,_,_=>h.elim
theorem xgA {W':World} (hlo:laidOutB P=true) (hb:Below w.heap.size w W'):∀{ts:List TypeId} {vs:List Value} {ds:List (DataW H)} {p:List MemPlace},DataW.TrodAll enc P w 0 (fun _=>true) true ts vs ds p →
 (∀t∈ts,P.readableRec t=true∧t<P.types.size)→(∀x∈p,x.block<w.heap.size)→DataW.TrodAll enc P W' 0 (fun b=>decide (b<w.heap.size)) true ts vs ds p
 | [],[],[],p,h,_,_=>h
 | t::ts,v::vs,d::ds,p,⟨p1,q,h1,h2,e⟩,hr,hlt=>by
  refine ⟨p1,q,Below.trod hlo (hr t (by simp)).1 (hr t (by simp)).2 h1 hb (fun x hx=>hlt x (by rw [e];simp [hx])),xgA hlo hb h2 (fun t ht=>hr t (by simp [ht])) (fun x hx=>hlt x (by rw [e];simp [hx])),e⟩
 | [],_::_,_,_,h,_,_=>h.elim
 | [],[],_::_,_,h,_,_=>h.elim
 | _::_,[],_,_,h,_,_=>h.elim
 | _::_,_::_,[],_,h,_,_=>h.elim
theorem xoj {S:Nat→Prop} {w w':World} {v:Value} {S':Nat→Prop} {no:Nat→Option Nat} {cvs:List Value} (h:Post [.one .sc] [PV.bool true] S w v w' S' no cvs):v=.bool true:=by
 have h1:=h.ret
 have h2:=h.len
 match cvs,h2 with
 | [c],_ =>
  have h3:=h.cells 0 .sc c rfl rfl
  have h4:c=.bool true:=xbp.bool_inv h3
  rw [h1,h4]
  rfl
end
set_option maxHeartbeats 1000000 in
theorem row_lifted {C:Checked} {os:Os} {f:FuncId} {fn:Func} {s:ChangeSpec} {conds:List PathCond} {n:Nat} {H:Type} {enc:TypeId×Value→H} {ess:List (List Sh)} {tb:TypeId}
 (own:ownKnob C.prog.godebug=none) (started:os.Started) (noInit:C.prog.inits.idxOf? f=none) (hfn:C.prog.funcs[f]? = some fn)
 (witness:∃(w:World) (tape:Tape) (i:Input),w.os=os∧(w.forCall tape i).Shaped C.prog∧i.vars=[]∧Input.okWide C.prog (w.forCall tape i) .any w.heap.size f i ∧
  s.pre6 enc C.prog fn conds false (w.forCall tape i).memory i.args∧({}:Assume).holds C.prog (lone (Frame.enter C.prog f i.args .normal) [] (w.forCall tape i)))
 (hvars:s.vars=[]) (hsf:∀ds:List (DataW H),ds.length=fn.params.toList.length→s.fn H ds={ results:=[.lit (.bool true)],args:=ds })
 (hess:fn.params.toList.mapM (shs C.prog n)=some ess) (hone:(fn.params.toList.all fun t=>xcW C.prog t||match shs C.prog n t with | some es=>decide (es.length=1) | none=>true)=true)
 (hlo:laidOutB C.prog=true) (hread:(fn.params.toList.all fun t=>C.prog.readableRec t&&decide (t<C.prog.types.size))=true)
 (hres:fn.resultTypes=#[tb]) (htb:C.prog.underlying tb=some .bool)
 (henv:∀W,Env W) (law:∀pvss,xc8 ess pvss→xgS C.prog [.one .sc] f (xiM C.prog fn.params.toList pvss) [PV.bool true]) :
 ReturnsInHanded {} C os f .any (s.pre6 enc C.prog fn conds false) (s.post enc C.prog fn false true false false):=by
 refine returnsInHanded_of_change_sized (C:=C) own started noInit hfn witness ?_
 intro W base args ds gs before hval hW hcnd hsz _
 have hW':=hW
 obtain ⟨p,q,hA,hV,he,hfz,hnd⟩:=hW
 rw [hvars] at hV
 have hone':∀t∈fn.params.toList,∀es,shs C.prog n t=some es→xcW C.prog t=true∨es.length=1:=by
  intro t ht es hes
  have:=List.all_eq_true.1 hone t ht
  rw [hes] at this
  simpa using this
 obtain ⟨hl,pvss,h1,h2⟩:=xhK (n:=n) hA (fun j t v hj hv=>hval j t v (by simpa using hj) (by simpa using hv)) hess hone'
 obtain ⟨_,hcall⟩:=law pvss h1
 have hgs:gs=[]∧q=[]:=by
  match gs,hV with
  | [],hV=>exact ⟨rfl,hV⟩
  | _::_,hV=>exact hV.elim
 obtain ⟨rfl,rfl⟩:=hgs
 rw [List.append_nil] at he
 subst he
 have hc:=hcall W (fun x=>x<W.heap.size) args.toList (henv W) (fun _ h=>h) h2
 rw [Array.toArray_toList] at hc
 refine hc.mono fun e W' ⟨v,S',no,cvs,he,hp⟩=>?_
 have hv:=xoj hp
 subst hv
 refine ⟨_,he,?_⟩
 have bel:=hp.below
 have hlt:∀x∈before,x.block<W.heap.size:=fun x hx=>hW'.lt x hx
 have hag:=xgA hlo bel hA (fun t ht=>by
  have:=List.all_eq_true.1 hread t ht
  simpa using this) hlt
 have hfn':s.fn H (ds++[])={ results:=[.lit (.bool true)],args:=ds }:=by rw [List.append_nil];exact hsf ds hl
 refine ⟨ds,[],before,[],before,[],hW',?_,?_,?_,bel.frame _,fun h=>by cases h⟩
 ·rw [hfn',hres]
  exact trodAll_mk1 (shut_bool htb _)
 ·rw [hfn']
  exact hag
 ·rw [hfn',hvars]
  rfl
set_option maxHeartbeats 1000000 in
theorem xof {C:Checked} {os:Os} {f:FuncId} {fn:Func} {s:ChangeSpec} {conds:List PathCond} {n:Nat} {H:Type} {enc:TypeId×Value→H} {ess:List (List Sh)} {tb:TypeId} {L:List (String×DataW Unit)}
 (own:ownKnob C.prog.godebug=none) (started:os.Started) (noInit:C.prog.inits.idxOf? f=none) (hfn:C.prog.funcs[f]? = some fn)
 (witness:∃(w:World) (tape:Tape) (i:Input),w.os=os∧(w.forCall tape i).Shaped C.prog∧i.vars=[]∧Input.okWide C.prog (w.forCall tape i) .any w.heap.size f i ∧
  ((s.pre enc C.prog fn conds false (w.forCall tape i).memory i.args∧laidMet C.prog L (w.forCall tape i).memory)∧sizedMet enc C.prog fn (OpenSpec.ofChange s) false (w.forCall tape i).memory i.args)∧({}:Assume).holds C.prog (lone (Frame.enter C.prog f i.args .normal) [] (w.forCall tape i)))
 (hvars:s.vars=[]) (hsf:∀ds:List (DataW H),ds.length=fn.params.toList.length→s.fn H ds={ results:=[.lit (.bool true)],args:=ds })
 (hess:fn.params.toList.mapM (shs C.prog n)=some ess) (hone:(fn.params.toList.all fun t=>xcW C.prog t||match shs C.prog n t with | some es=>decide (es.length=1) | none=>true)=true)
 (hlo:laidOutB C.prog=true) (hread:(fn.params.toList.all fun t=>C.prog.readableRec t&&decide (t<C.prog.types.size))=true)
 (hres:fn.resultTypes=#[tb]) (htb:C.prog.underlying tb=some .bool)
 (henv:∀W,laidMet C.prog L W→Env W) (law:∀pvss,xc8 ess pvss→xgS C.prog [.one .sc] f (xiM C.prog fn.params.toList pvss) [PV.bool true]) :
 ReturnsInHanded {} C os f .any (fun w args=>(s.pre enc C.prog fn conds false w args∧laidMet C.prog L w)∧sizedMet enc C.prog fn (OpenSpec.ofChange s) false w args) (s.post enc C.prog fn false true false false):=by
 refine returnsInHanded_of_change_and (C:=C) (X:=fun w _=>laidMet C.prog L w) (fun _ _ _ hh h=>h.of_heap hh) own started noInit hfn witness ?_
 intro W base args ds gs before hval hW hcnd hsz hL _
 have hW':=hW
 obtain ⟨p,q,hA,hV,he,hfz,hnd⟩:=hW
 rw [hvars] at hV
 have hone':∀t∈fn.params.toList,∀es,shs C.prog n t=some es→xcW C.prog t=true∨es.length=1:=by
  intro t ht es hes
  have:=List.all_eq_true.1 hone t ht
  rw [hes] at this
  simpa using this
 obtain ⟨hl,pvss,h1,h2⟩:=xhK (n:=n) hA (fun j t v hj hv=>hval j t v (by simpa using hj) (by simpa using hv)) hess hone'
 obtain ⟨_,hcall⟩:=law pvss h1
 have hgs:gs=[]∧q=[]:=by
  match gs,hV with
  | [],hV=>exact ⟨rfl,hV⟩
  | _::_,hV=>exact hV.elim
 obtain ⟨rfl,rfl⟩:=hgs
 rw [List.append_nil] at he
 subst he
 have hc:=hcall W (fun x=>x<W.heap.size) args.toList (henv W hL) (fun _ h=>h) h2
 rw [Array.toArray_toList] at hc
 refine hc.mono fun e W' ⟨v,S',no,cvs,he,hp⟩=>?_
 have hv:=xoj hp
 subst hv
 refine ⟨_,he,?_⟩
 have bel:=hp.below
 have hlt:∀x∈before,x.block<W.heap.size:=fun x hx=>hW'.lt x hx
 have hag:=xgA hlo bel hA (fun t ht=>by
  have:=List.all_eq_true.1 hread t ht
  simpa using this) hlt
 have hfn':s.fn H (ds++[])={ results:=[.lit (.bool true)],args:=ds }:=by rw [List.append_nil];exact hsf ds hl
 refine ⟨ds,[],before,[],before,[],hW',?_,?_,?_,bel.frame _,fun h=>by cases h⟩
 ·rw [hfn',hres]
  exact trodAll_mk1 (shut_bool htb _)
 ·rw [hfn']
  exact hag
 ·rw [hfn',hvars]
  rfl
end Go.Ev
/- From a law's printed meaning to its row. -/
namespace Go.Ev
theorem xkV {P:Program}:∀{ts:List TypeId} {ps:List (List PV)},xj0 (xiM P ts ps)=[]
 | [],_=>rfl
 | _::_,[]=>rfl
 | t::ts,p::ps=>by
  unfold xiM xuo
  split<;>simp [xj0,xkV]
theorem law_of {P:Program} {T:Tab} {f:Nat} {g:GM} {ts:List TypeId} {ess:List (List Sh)} (hw:xfE P T ⟨[f],g⟩) (hsg:lk T.sig f=some [.one .sc])
 (h:∀pvss,xc8 ess pvss→g (xiM P ts pvss) (fun o=>o=[PV.bool true])):∀pvss,xc8 ess pvss→xgS P [.one .sc] f (xiM P ts pvss) [PV.bool true] :=
 fun pvss hp=>(hw f _ _ (by rw [xkV]) (h pvss hp) _ hsg).1 rfl
theorem xh0 {p:PV} (h:Sh.has .str p):∃s:ByteArray,p=.str s∧s.size≤maxLen:=by
 simpa only [Sh.has] using h
theorem xbj {k:IntKind} {p:PV} (h:Sh.has (.int k) p):∃n,p=.int k n:=by
 simp only [Sh.has] at h
 obtain ⟨n,h,_⟩:=h
 exact ⟨n,h⟩
theorem xmT {p:PV} (h:Sh.has .bool p):∃b,p=.bool b:=by simpa only [Sh.has] using h
theorem xqp {es:List Sh} {p:PV} (h:Sh.has (.list es) p):∃rows,p=.list es.length rows∧rows.length≤maxLen∧∀r∈rows,Sh.hasAll es r:=by simpa only [Sh.has] using h
theorem xsb {ps:List PV} (h:Sh.hasAll [] ps):ps=[]:=by simpa only [Sh.hasAll] using h
theorem all_cons {e:Sh} {es:List Sh} {ps:List PV} (h:Sh.hasAll (e::es) ps):∃p r,ps=p::r∧Sh.has e p∧Sh.hasAll es r:=by simpa only [Sh.hasAll] using h
theorem xfC {e:Sh} {ps:List PV} (h:Sh.hasAll [e] ps):∃p,ps=[p]∧Sh.has e p:=by
 obtain ⟨p,r,rfl,h1,h2⟩:=all_cons h
 rw [xsb h2];exact ⟨p,rfl,h1⟩
theorem xmD {α:Type} {es:List Sh} {enc:α→List PV} {wf:α→Prop} (h:∀r,Sh.hasAll es r→∃a,r=enc a∧wf a):∀{rows:List (List PV)},(∀r∈rows,Sh.hasAll es r)→∃l:List α,rows=l.map enc∧∀a∈l,wf a
 | [],_=>⟨[],rfl,by simp⟩
 | r::rows,hr=>by
  obtain ⟨a,ha,h1⟩:=h r (hr r (by simp))
  obtain ⟨l,hl,h2⟩:=xmD h (rows:=rows) (fun r h=>hr r (by simp [h]))
  refine ⟨a::l,by rw [ha,hl];rfl,fun b hb=>?_⟩
  rcases List.mem_cons.1 hb with rfl | hb
  ·exact h1
  ·exact h2 b hb
theorem xh1 {α:Type} {es:List Sh} {enc:α→List PV} {wf:α→Prop} (h:∀r,Sh.hasAll es r→∃a,r=enc a∧wf a) (sz:Nat) (hsz:es.length=sz) {p:PV} (hp:Sh.has (.list es) p):∃l:List α,p=.list sz (l.map enc)∧l.length≤maxLen∧∀a∈l,wf a:=by
 subst hsz
 obtain ⟨rows,rfl,h1,h2⟩:=xqp hp
 obtain ⟨l,rfl,h3⟩:=xmD h h2
 exact ⟨l,rfl,by simpa using h1,h3⟩
theorem xqx {ps:List (List PV)} (h:xc8 [] ps):ps=[]:=by simpa only [xc8] using h
theorem xla {e:List Sh} {es:List (List Sh)} {ps:List (List PV)} (h:xc8 (e::es) ps):∃p r,ps=p::r∧Sh.hasAll e p∧xc8 es r:=by simpa only [xc8] using h
theorem xeS {p:PV} (hp:Sh.has (.list [.int .i64]) p):∃l:List Int,p=ints l∧l.length≤maxLen:=by
 obtain ⟨l,h1,h2,_⟩:=xh1 (enc:=rI) (wf:=fun _=>True) (fun r hr=>by
  obtain ⟨p,rfl,h⟩:=xfC hr
  obtain ⟨n,rfl⟩:=xbj h
  exact ⟨n,rfl,trivial⟩) 1 rfl hp
 exact ⟨l,h1,h2⟩
end Go.Ev
/- The closed facts of a row, told so that great types cost little: roads through the parts of a type, for its book. -/
namespace Go.Ev
def meets (P:Program) (p:TypeId→Bool):Nat→TypeId→Bool
 | 0,_=>false
 | d+1,t=>p t||(P.partsOf t).any (meets P p d)
theorem xi8 {P:Program} {p:TypeId→Bool}:∀{k d:Nat} {t u:TypeId},Road P k t u→p u=true→k<d→meets P p d t=true
 | 0,d+1,t,u,h,hp,_=>by cases h;simp [meets,hp]
 | k+1,d+1,t,u,⟨v,h1,h2⟩,hp,hk=>by
  have:=xi8 h2 hp (d:=d) (by omega)
  simp only [meets,Bool.or_eq_true,List.any_eq_true]
  exact .inr ⟨v,h1,this⟩
 | k,0,_,_,_,_,h=>by omega
def xjd (P:Program) (u:TypeId):Bool:=match P.underlying u with | some (.func ..) | some (.chan ..) | some .unsafePointer=>true | _=>false
theorem xgC {P:Program} {t:TypeId} (h:meets P (xjd P) (P.types.size+1) t=false):P.veiledRec t=false:=by
 cases hv:P.veiledRec t with
 | false=>rfl
 | true =>
  unfold Program.veiledRec at hv
  obtain ⟨u,h1,h2⟩:=List.any_eq_true.1 hv
  obtain ⟨k,hk,hr⟩:=mem_book_iff.1 h1
  have:=xi8 (p:=xjd P) hr h2 (d:=P.types.size+1) (by omega)
  rw [this] at h;cases h
def xh7 (P:Program) (f:FuncId) (fn:Func) (s:ChangeSpec) (c:OpenClaim):Bool :=
 c.wf (OpenSpec.ofChange s)&&laidOutB P&&mapsRowed P &&
 (fn.params.toList++s.plain.varTypes P++fn.resultTypes.toList).all (fun t=>P.readableWide t&&!meets P (xjd P) (P.types.size+1) t)&&namedTie P c.named s.vars &&
 (c.stops==[])&&(P.stops==[])&&(c.knobs==[])&&(P.stopKnobs==[]) &&
 (c.inPlace==P.inPlace f)&&(c.unfollowed==P.unfollowed f)&&(c.recurses==P.recurses f)&&(c.named==P.varsNamed f) &&
 (c.maps==(fn.params.toList++s.plain.varTypes P).any (P.mapsIn ·))&&(c.ifaces==(fn.params.toList++s.plain.varTypes P).any (P.ifacesIn ·))&&(c.mapsOut==P.mapsAmong fn.resultTypes.toList) &&
 (c.loops==false)&&(c.wideKeys==false) &&
 s.vars.all (P.varReadable ·)&&fn.resultTypes.all (fun t=>decide (t<P.types.size))&&(c.ifacesOut==fn.resultTypes.toList.any (P.ifacesIn ·))&&(c.loopsOut==false)&&(c.plainKeys==P.plainKeys)&&c.shortTexts.isNone&&P.stopsHeard&&P.mayEnter&&(c.lifted==P.liftsFinal)&&(P.make==some c.make)&&(c.kinds==(if c.domain.isEmpty then [] else fn.params.toList.map fun t=>match P.underlying t with | some (.int k)=>some k | _=>none))&&(c.pinned==c.pinnedBy) &&
 (c.veiled==false)&&(c.laid.filterMap fun x=>(P.globalNamed x.1).bind fun g=>(P.globals[g]?).map (·.type)).all (fun t=>!meets P (xjd P) (P.types.size+1) t)&&(match c.start with | .entering=>true | _=>false)
theorem xiH {P:Program} {f:FuncId} {fn:Func} {s:ChangeSpec} {c:OpenClaim} (h:xh7 P f fn s c=true):joinedFacts P f fn s c=true:=by
 simp only [xh7,Bool.and_eq_true] at h
 obtain ⟨⟨⟨⟨⟨⟨⟨⟨⟨⟨⟨⟨⟨⟨⟨⟨⟨⟨⟨⟨⟨⟨⟨⟨⟨⟨⟨⟨⟨⟨⟨⟨k1,k2⟩,k3⟩,k4⟩,k5⟩,k6⟩,k7⟩,k8⟩,k9⟩,k10⟩,k11⟩,k12⟩,k13⟩,k14⟩,k15⟩,k16⟩,k17⟩,k18⟩,k19⟩,k20⟩,k21⟩,k22⟩,k23⟩,k24⟩,k25⟩,k26⟩,k27⟩,k28⟩,k29⟩,k30⟩,k31⟩,k32⟩,k33⟩:=h
 have hts:∀t∈fn.params.toList++s.plain.varTypes P++fn.resultTypes.toList,P.readableWide t=true∧P.veiledRec t=false:=fun t ht=>by
  have:=List.all_eq_true.1 k4 t ht
  simp only [Bool.and_eq_true,Bool.not_eq_true'] at this
  exact ⟨this.1,xgC this.2⟩
 have any_false:∀{l:List TypeId} {p:TypeId→Bool},(∀t∈l,p t=false)→l.any p=false:=fun {l p} h=>by
  rw [List.any_eq_false];intro t ht;rw [h t ht];simp
 have hp:∀t∈fn.params.toList,t∈fn.params.toList++s.plain.varTypes P++fn.resultTypes.toList:=fun t h=>by simp [h]
 have hpv:∀t∈fn.params.toList++s.plain.varTypes P,t∈fn.params.toList++s.plain.varTypes P++fn.resultTypes.toList:=fun t h=>List.mem_append_left _ h
 have hr:∀t∈fn.resultTypes.toList,t∈fn.params.toList++s.plain.varTypes P++fn.resultTypes.toList:=fun t h=>List.mem_append_right _ h
 have q4:fn.params.all (P.readableRec ·)=true:=by
  rw [Array.all_eq_true_iff_forall_mem]
  exact fun t ht=>readableRec_of_wide (hts t (hp t (by simpa using ht))).1
 have q17:(c.loops==(fn.params.toList++s.plain.varTypes P).any (P.loopsFrom ·))=true:=by
  rw [any_false fun t ht=>loopsFrom_of_wide (hts t (hpv t ht)).1];exact k17
 have q18:(c.wideKeys==(fn.params.toList++s.plain.varTypes P++fn.resultTypes.toList).any (P.wideKeysFrom ·))=true:=by
  rw [any_false fun t ht=>wideKeysFrom_of_wide (hts t ht).1];exact k18
 have q20:fn.resultTypes.all (fun t=>P.readableRec t&&decide (t<P.types.size))=true:=by
  rw [Array.all_eq_true_iff_forall_mem] at k20 ⊢
  intro t ht
  simp only [Bool.and_eq_true]
  exact ⟨readableRec_of_wide (hts t (hr t (by simpa using ht))).1,k20 t ht⟩
 have q22:(c.loopsOut==fn.resultTypes.toList.any (P.loopsFrom ·))=true:=by
  rw [any_false fun t ht=>loopsFrom_of_wide (hts t (hr t ht)).1];exact k22
 have q31:(c.veiled==(fn.params.toList++s.plain.varTypes P++fn.resultTypes.toList).any (P.veiledRec ·))=true:=by
  rw [any_false fun t ht=>(hts t ht).2];exact k31
 have q14:(c.maps==(fn.params.toList++s.plain.varTypes P).any (P.mapsRec ·))=true:=by
  rw [show (P.mapsRec ·)=(P.mapsIn ·) from funext mapsRec_eq];exact k14
 have q15:(c.ifaces==(fn.params.toList++s.plain.varTypes P).any (P.ifacesRec ·))=true:=by
  rw [show (P.ifacesRec ·)=(P.ifacesIn ·) from funext ifacesRec_eq];exact k15
 have q21:(c.ifacesOut==fn.resultTypes.toList.any (P.ifacesRec ·))=true:=by
  rw [show (P.ifacesRec ·)=(P.ifacesIn ·) from funext ifacesRec_eq];exact k21
 have q32:c.veiledFits P fn.params.toList (fn.params.toList++s.plain.varTypes P++fn.resultTypes.toList)=true:=by
  have hl:∀t∈(c.laid.filterMap fun x=>(P.globalNamed x.1).bind fun g=>(P.globals[g]?).map (·.type)),P.veiledRec t=false:=fun t ht=>by
   have:=List.all_eq_true.1 k32 t ht
   simp only [Bool.not_eq_true'] at this
   exact xgC this
  unfold OpenClaim.veiledFits
  simp only [Bool.and_eq_true,Bool.or_eq_true]
  refine ⟨?_,.inl (List.all_eq_true.2 fun t ht=>?_)⟩
  rotate_left
  ·rcases List.mem_append.1 ht with h1 | h1
   ·simp [Program.veiledOwn,(hts t h1).2]
   ·simp [Program.veiledOwn,hl t h1]
  split at k33
  ·rename_i e;simp [e]
  ·cases k33
 simp only [joinedFacts,Bool.and_eq_true]
 exact ⟨⟨⟨⟨⟨⟨⟨⟨⟨⟨⟨⟨⟨⟨⟨⟨⟨⟨⟨⟨⟨⟨⟨⟨⟨⟨⟨⟨⟨⟨⟨k1,k2⟩,k3⟩,q4⟩,k5⟩,k6⟩,k7⟩,k8⟩,k9⟩,k10⟩,k11⟩,k12⟩,k13⟩,q14⟩,q15⟩,k16⟩,q17⟩,q18⟩,k19⟩,q20⟩,q21⟩,q22⟩,k23⟩,k24⟩,k25⟩,k26⟩,k27⟩,k28⟩,k29⟩,k30⟩,q31⟩,q32⟩
theorem joined_of_parts {P:Program} {f:FuncId} {fn:Func} {s:ChangeSpec} {c:OpenClaim}
 (g1:(c.wf (OpenSpec.ofChange s)&&(fn.params.toList++s.plain.varTypes P++fn.resultTypes.toList).all (fun t=>P.readableWide t&&!meets P (xjd P) (P.types.size+1) t)&&namedTie P c.named s.vars&&(c.stops==[])&&(c.knobs==[]) &&
  (c.maps==(fn.params.toList++s.plain.varTypes P).any (P.mapsIn ·))&&(c.ifaces==(fn.params.toList++s.plain.varTypes P).any (P.ifacesIn ·))&&(c.mapsOut==P.mapsAmong fn.resultTypes.toList)&&(c.loops==false)&&(c.wideKeys==false) &&
  s.vars.all (P.varReadable ·)&&fn.resultTypes.all (fun t=>decide (t<P.types.size))&&(c.ifacesOut==fn.resultTypes.toList.any (P.ifacesIn ·))&&(c.loopsOut==false)&&c.shortTexts.isNone &&
  (c.kinds==(if c.domain.isEmpty then [] else fn.params.toList.map fun t=>match P.underlying t with | some (.int k)=>some k | _=>none))&&(c.pinned==c.pinnedBy)&&(c.veiled==false)&&(c.laid.filterMap fun x=>(P.globalNamed x.1).bind fun g=>(P.globals[g]?).map (·.type)).all (fun t=>!meets P (xjd P) (P.types.size+1) t)&&(match c.start with | .entering=>true | _=>false))=true)
 (g2:laidOutB P=true) (g3:mapsRowed P=true) (g4:(P.stops==[])=true) (g5:(P.stopKnobs==[])=true)
 (g6:((c.inPlace==P.inPlace f)&&(c.unfollowed==P.unfollowed f)&&(c.recurses==P.recurses f)&&(c.named==P.varsNamed f))=true)
 (g7:(c.plainKeys==P.plainKeys)=true) (g8:P.stopsHeard=true) (g9:P.mayEnter=true) (g10:(c.lifted==P.liftsFinal)=true) (g11:(P.make==some c.make)=true):joinedFacts P f fn s c=true:=by
 refine xiH ?_
 simp only [Bool.and_eq_true] at g1 g6
 obtain ⟨⟨⟨⟨⟨⟨⟨⟨⟨⟨⟨⟨⟨⟨⟨⟨⟨⟨⟨a1,a2⟩,a3⟩,a4⟩,a5⟩,a6⟩,a7⟩,a8⟩,a9⟩,a10⟩,a11⟩,a12⟩,a13⟩,a14⟩,a15⟩,a16⟩,a17⟩,a18⟩,a19⟩,a20⟩:=g1
 obtain ⟨⟨⟨b1,b2⟩,b3⟩,b4⟩:=g6
 simp only [xh7,Bool.and_eq_true]
 exact ⟨⟨⟨⟨⟨⟨⟨⟨⟨⟨⟨⟨⟨⟨⟨⟨⟨⟨⟨⟨⟨⟨⟨⟨⟨⟨⟨⟨⟨⟨⟨⟨a1,g2⟩,g3⟩,a2⟩,a3⟩,a4⟩,g4⟩,a5⟩,g5⟩,b1⟩,b2⟩,b3⟩,b4⟩,a6⟩,a7⟩,a8⟩,a9⟩,a10⟩,a11⟩,a12⟩,a13⟩,a14⟩,g7⟩,a15⟩,g8⟩,g9⟩,g10⟩,g11⟩,a16⟩,a17⟩,a18⟩,a19⟩,a20⟩
end Go.Ev
