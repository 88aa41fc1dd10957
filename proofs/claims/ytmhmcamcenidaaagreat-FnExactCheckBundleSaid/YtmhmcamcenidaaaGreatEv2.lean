/- An evaluator of pure values over the code of the model, proved sound, part 2. -/
import Derived.Test.YtmhmcamcenidaaaGreatEv1
import Derived.Great.BuildSlice
set_option linter.unusedVariables false
set_option linter.unusedSimpArgs false
/- What the evaluator asks of an operation that only adds is what it yields. -/
namespace Go.Ev
open Go.RowKit
structure AOK (F:Fr) (A:Adds):Prop where
 row:∀id r,lk A.rows id=some r→F.next≤id∧id<F.next+A.n
 box:∀id r,lk A.boxes id=some r→F.next≤id∧id<F.next+A.n
 dis:∀id r c,lk A.rows id=some r→lk A.boxes id=some c→False
theorem AOK.none (F:Fr):AOK F .none:=⟨fun _ _ h=>(nomatch h),fun _ _ h=>(nomatch h),fun _ _ _ h=>(nomatch h)⟩
def xrs (G:Gh) (id:Nat):Prop:=G.row id=none∧G.bx id=none∧∀x,G.own x≠some id
structure St (w0:Base) (G:Gh) (F:Fr) (a:Act) (w:World):Prop where
 rel:Rel w0 G F a w
 free:∀id,F.next≤id→xrs G id
 krow:∀id r,lk F.rows id=some r→id<F.next
 kbox:∀id r,lk F.boxes id=some r→id<F.next
 kdis:∀id r c,lk F.rows id=some r→lk F.boxes id=some c→False
def xsX (P:Program) (I:FuncId→Fr→(TV→Fr→Prop)→Prop):Prop:=∀f F k,I f F k →
 (∃ fn, P.funcs[f]? = some fn ∧ (fn.name == "runtime.NumGoroutine") = false ∧ fn.body.isNone = false) ∧
 ∀(w0:Base) (G:Gh) (vals:List Value) (w:World),vals.length≤F.nt→St w0 G F { tmps:=vals.toArray++Array.replicate (F.nt-vals.toArray.size) undef,defers:=[] } w →
  Calls P f vals.toArray w fun e w'=>∃v,e=.returned v∧∃tv F' G' a',St w0 G' F' a' w'∧xcy G' w' tv v∧k tv F'
structure xdx (P:Program) (T:Tab) (C:Orac):Prop where
 call:∀f sg,lk T.sig f=some sg→∀av out,C f av out→Owes P sg f av out
 inl:xsX P C.inl
section
variable {P : Program} {T : Tab} {o : Oper} {F : Fr} {C : Orac} {k : Fr → Prop}
theorem kN {k:Fr→Prop} {o:Oper} {F:Fr} {P:Program} (tv:TV) (h1:k (put F o.dst tv)) (h2:Yields P o F .none tv):∃A tv,k (put (F.plus A) o.dst tv)∧Yields P o F A tv∧AOK F A :=
 ⟨.none,tv,by rw [Fr.plus_none];exact h1,h2,.none F⟩
theorem xls {t:TypeId} {ti:TI} (h:xeN P T t ti) {i:Nat} {f:Nat×TypeId} (hf:ti.flds[i]? = some f):ti.agg=true:=by
 cases ha:ti.agg with
 | true=>rfl
 | false=>rw [h.nofl ha] at hf;simp at hf
theorem xuN {op:BinOp} {p q:PV} {k:PV→Prop} (h:xac op p q k):∃r,k r∧∀(S:Nat→Prop) (w:World) (v u:Value) (t:TypeId) (x y:Operand),xbp S w [p] [v]→xbp S w [q] [u] →
 ∃z,((do eqGuard op t x y v u;binOp op t v u):Sem Value).run P w=.ok z w∧∀S' w',xbp S' w' [r] [z]:=xm9 h
theorem xpn (n:Nat) (F:Fr) (h:n=F.next) (cs:List Cell):AOK F ⟨[],[(n,cs)],1⟩:=by
 subst h
 refine ⟨fun _ _ h=>(nomatch h),fun id r h=>?_,fun _ _ _ h=>(nomatch h)⟩
 simp only [xas] at h
 split at h
 ·rename_i e;show F.next≤id∧id<F.next+1;omega
 ·cases h
theorem xmi (F:Fr) (r:Row):AOK F ⟨[(F.next,r)],[],1⟩:=by
 refine ⟨fun id r h=>?_,fun _ _ h=>(nomatch h),fun _ _ _ _ h=>(nomatch h)⟩
 simp only [xas] at h
 split at h
 ·rename_i e;show F.next≤id∧id<F.next+1;omega
 ·cases h
theorem xkb (F:Fr) (out:List PV) (cks:List CK):AOK F ⟨xdl F.next out 0 cks,[],cks.length⟩:=by
 refine ⟨fun id r h=>?_,fun _ _ h=>(nomatch h),fun _ _ _ _ h=>(nomatch h)⟩
 obtain ⟨j,deep,e,sz,h1,h2,_⟩:=xeC h
 have:j<cks.length:=by
  rcases Nat.lt_or_ge j cks.length with h' | h'
  ·exact h'
  ·simp [List.getElem?_eq_none h'] at h1
 show F.next≤id∧id<F.next+cks.length
 omega
theorem xlt {x:Operand} (hop:o.op=.move x∨o.op=.assign x) (h:match opnd T F o.type x with | some v=>k (put F o.dst v) | none=>False):∃A tv,k (put (F.plus A) o.dst tv)∧Yields P o F A tv∧AOK F A:=by
 split at h
 ·rename_i v e;exact kN v h (xse hop e)
 ·exact h.elim
theorem xpq {c x y:Operand} (hop:o.op=.pick c x y) (h:opS C T o F k):∃A tv,k (put (F.plus A) o.dst tv)∧Yields P o F A tv∧AOK F A:=by
 unfold opS at h
 rw [hop] at h
 simp only at h
 split at h
 ·rename_i b e
  split at h
  ·rename_i v e';exact kN v h (xmj hop e rfl e')
  ·exact h.elim
 ·rename_i p e
  unfold xad at h
  split at h
  ·rename_i b
   cases b with
   | true =>
    rw [if_pos rfl] at h
    split at h
    ·rename_i v e';exact kN v h (xmj (b:=true) hop e rfl e')
    ·exact h.elim
   | false =>
    rw [if_neg (by simp)] at h
    split at h
    ·rename_i v e';exact kN v h (xmj (b:=false) hop e rfl e')
    ·exact h.elim
  ·exact h.elim
 ·exact h.elim
theorem xnS {t:TypeId} (hT:xaz P T) (hop:o.op=.alloc t) (h:opS C T o F k):∃A tv,k (put (F.plus A) o.dst tv)∧Yields P o F A tv∧AOK F A:=by
 unfold opS at h
 rw [hop] at h
 simp only at h
 split at h
 ·rename_i i hi;exact ⟨⟨[],[(F.next,i.zero)],1⟩,_,h,xqM hT hi hop,xpn _ F rfl _⟩
 ·exact h.elim
theorem xqG {t:TypeId} {x:Operand} (hop:o.op=.box t x) (h:opS C T o F k):∃A tv,k (put (F.plus A) o.dst tv)∧Yields P o F A tv∧AOK F A:=by
 unfold opS at h
 rw [hop] at h
 simp only at h
 split at h
 ·rename_i v e
  split at h
  ·rename_i cs e';exact ⟨⟨[],[(F.next,cs)],1⟩,_,h,xtz hop e e',xpn _ F rfl _⟩
  ·exact h.elim
 ·exact h.elim
theorem xnR {t:TypeId} {parts:Array (Nat×Operand)} (hT:xaz P T) (hop:o.op=.build t parts) (h:opS C T o F k):∃A tv,k (put (F.plus A) o.dst tv)∧Yields P o F A tv∧AOK F A:=by
 unfold opS at h
 rw [hop] at h
 simp only at h
 split at h
 ·rename_i i hi
  split at h
  ·rename_i ha
   split at h
   ·rename_i ps hps
    split at h
    ·rename_i cs hcs;exact kN _ h (xqL hT hop hi ha hps hcs)
    ·exact h.elim
   ·exact h.elim
  ·exact h.elim
 ·exact h.elim
theorem xpr {t:TypeId} {x:Operand} (hT:xaz P T) (hop:o.op=.load t x) (h:opS C T o F k) (hadd:xbb T F o=true):∃A tv,k (put (F.plus A) o.dst tv)∧Yields P o F A tv∧AOK F A:=by
 unfold opS at h
 rw [hop] at h
 simp only at h
 split at h
 ·rename_i i b off hi ex
  split at h
  ·rename_i cs hb
   split at h
   ·rename_i hag
    split at h
    ·rename_i hle;exact kN _ h (xjw hT hi hop ex hb (by rw [if_pos hag];exact ⟨hle,rfl⟩))
    ·exact h.elim
   ·rename_i hag
    split at h
    ·rename_i c hc;exact kN _ h (xjw hT hi hop ex hb (by rw [if_neg hag];exact ⟨c,hc,rfl⟩))
    ·exact h.elim
  ·exact h.elim
 ·rename_i i cs hi ex
  split at h
  ·rename_i hag
   split at h
   ·rename_i hle;exact kN _ h (xnd hT hi hop ex (by rw [if_pos hag];exact ⟨hle,rfl⟩))
   ·exact h.elim
  ·rename_i hag
   split at h
   ·rename_i c hc;exact kN _ h (xnd hT hi hop ex (by rw [if_neg hag];exact ⟨c,hc,rfl⟩))
   ·exact h.elim
 ·rename_i f q ex
  split at h
  ·rename_i hag
   exact kN _ h (xqI hT hop ex hag)
  ·exact h.elim
 ·rename_i i id sz j off hi ex
  split at h
  ·rename_i r hr
   split at h
   ·rename_i hc
    unfold xp1 at h
    split at h
    ·rename_i s rows he
     obtain ⟨hs,h⟩:=h
     subst hs
     split at h
     ·rename_i cells hj
      have hadd':r.kind=.deep→T.plain t=true:=by
       intro hd
       unfold xbb at hadd
       simp only [hop,ex,hr,hd] at hadd
       simpa using hadd
      split at h
      ·rename_i hd
       rw [if_pos (hadd' hd)] at h
       exact kN _ h.2 (xke hT hi hop ex hr hc.1 hc.2 he hj (fun _=>h.1) rfl)
      ·rename_i hd
       exact kN _ h (xke hT hi hop ex hr hc.1 hc.2 he hj (fun hd'=>absurd hd' hd) rfl)
     ·exact h.elim
    ·exact h.elim
   ·exact h.elim
  ·exact h.elim
 ·exact h.elim
theorem xnn {op:BinOp} {xs ys:List PV} {k:PV→Prop} (h:xsc op xs ys k):∃b,sames xs ys=some b∧((op=.eql∧k (.bool b))∨(op=.neq∧k (.bool (!b)))):=by
 unfold xsc at h
 split at h
 ·rename_i b e
  split at h
  ·exact ⟨b,e,.inl ⟨rfl,h⟩⟩
  ·exact ⟨b,e,.inr ⟨rfl,h⟩⟩
  ·exact h.elim
 ·exact h.elim
theorem xqH {op:BinOp} {t t':TypeId} {x y:Operand} (hT:xaz P T) (hop:o.op=.binOp op t x y t') (h:opS C T o F k) (hadd:xbb T F o=true):∃A tv,k (put (F.plus A) o.dst tv)∧Yields P o F A tv∧AOK F A:=by
 unfold opS at h
 rw [hop] at h
 simp only at h
 split at h
 ·rename_i a b i ex ey hi
  split at h
  ·rename_i p q hp hq
   split at h
   ·rename_i htag
    obtain ⟨r,h1,h2⟩:=xpk ((hT.ty t i hi).tag3 htag) h
    exact kN _ h1 (xrk hop ex ey hp hq h2)
   ·obtain ⟨r,h1,h2⟩:=xm9 h
    exact kN _ h1 (xrk hop ex ey hp hq fun S w v u x y=>h2 S w v u t x y)
  ·split at h
   ·unfold xbb at hadd
    simp [hop,xth,ey] at hadd
   ·exact h.elim
 ·rename_i a b i ex ey hi
  split at h
  ·rename_i hk
   split at h
   ·rename_i p q hp hq
    obtain ⟨h1,h2,h3⟩:=h
    obtain ⟨bb,h4,h5⟩:=xnn h3
    rcases h5 with ⟨rfl,h5⟩ | ⟨rfl,h5⟩
    ·exact kN _ h5 (xrl hT hop hi hk ex ey hp hq h1 h4 (.inl rfl))
    ·exact kN _ h5 (xrl hT hop hi hk ex ey hp hq h1 h4 (.inr rfl))
   ·exact h.elim
  ·exact h.elim
 ·exact h.elim
theorem xsd {op:UnOp} {t:TypeId} {x:Operand} (hop:o.op=.unOp op t x) (h:opS C T o F k):∃A tv,k (put (F.plus A) o.dst tv)∧Yields P o F A tv∧AOK F A:=by
 unfold opS at h
 rw [hop] at h
 simp only at h
 split at h
 ·rename_i b ex
  split at h
  ·refine kN _ h (xay fun w0 G F2 a w hL hR=>?_)
   have h1:a.eval x=.bool b:=hR.eval T 0 x _ (xaF hL (fun t ht=>by simp [looks,hop,Op.operands,ht]) ex)
   exact ⟨.bool (!b),by simp [execOp,hop,h1,Op.unary],rfl⟩
  ·exact h.elim
 ·rename_i p ex
  have hk:∃r,k (put F o.dst (.one (.pv r)))∧unP op p (·=r):=by
   unfold unP at h
   split at h
   ·exact ⟨_,h,by simp [unP]⟩
   ·exact ⟨_,h,by simp [unP]⟩
   ·exact h.elim
  obtain ⟨r,h1,h2⟩:=hk
  refine kN _ h1 (xuP hop ex rfl (r:=r) (fun k hk=>?_) h2)
  unfold unP at h2 ⊢
  split at h2
  ·subst h2;exact hk
  ·subst h2;exact hk
  ·exact h2.elim
 ·exact h.elim
theorem xps {s d:TypeId} {x:Operand} (hT:xaz P T) (hop:o.op=.convert s d x) (h:opS C T o F k):∃A tv,k (put (F.plus A) o.dst tv)∧Yields P o F A tv∧AOK F A:=by
 unfold opS at h
 rw [hop] at h
 simp only at h
 split at h
 ·rename_i i j p hi hj ex
  split at h
  ·rename_i kd hk
   unfold xmc at h
   split at h
   ·exact kN _ h (xsi (p:=default) hT hop ex rfl hi hj hk)
   ·exact h.elim
  ·split at h
   ·rename_i ht
    unfold xux at h
    split at h
    ·exact kN _ h (xnU (p:=default) hT hop ex rfl hi hj ht.1 ht.2)
    ·exact h.elim
   ·split at h
    ·rename_i ht
     unfold xlk at h
     split at h
     ·exact kN _ h (xqK hT hop ex rfl hi hj ht.1 ht.2)
     ·exact h.elim
    ·split at h
     ·rename_i ht
      unfold xnk at h
      split at h
      ·split at h
       ·rename_i hl
        exact kN _ h (xpu hT hop ex rfl hl hi hj ht.1 ht.2)
       ·exact h.elim
      ·exact h.elim
     ·exact h.elim
 ·rename_i i j id hi hj ex
  split at h
  ·rename_i r hr
   split at h
   ·rename_i ht
    unfold xnk at h
    split at h
    ·rename_i rows he
     split at h
     ·rename_i hl
      exact kN _ h (xpu hT hop ex (by simp only [xa5,hr,he]) hl hi hj ht.1 ht.2)
     ·exact h.elim
    ·exact h.elim
   ·exact h.elim
  ·exact h.elim
 ·exact h.elim
theorem xkd {f:FuncId} {first caps:Array Operand} (hop:o.op=.makeFunc (.func f) first caps) (h:opS C T o F k):∃A tv,k (put (F.plus A) o.dst tv)∧Yields P o F A tv∧AOK F A:=by
 unfold opS at h
 rw [hop] at h
 simp only at h
 split at h
 ·rename_i h0
  split at h
  ·rename_i q hq;exact kN _ h (xmk hop h0 hq)
  ·exact h.elim
 ·exact h.elim
theorem xiN {t:TypeId} {n m:Operand} (hT:xaz P T) (hop:o.op=.makeSlice t n m) (h:opS C T o F k):∃A tv,k (put (F.plus A) o.dst tv)∧Yields P o F A tv∧AOK F A:=by
 unfold opS at h
 rw [hop] at h
 simp only at h
 split at h
 ·rename_i i p q hi en em
  split at h
  ·rename_i e he
   split at h
   ·rename_i z hz
    obtain ⟨hpq,hl,h⟩:=h
    subst hpq
    unfold xgW at h
    split at h
    ·rename_i kk mm
     exact ⟨⟨[(F.next,⟨.deep,i.elem,e.size,.list e.size (List.replicate mm.toNat z)⟩)],[],1⟩,_,h.2.2,xlv hT hop hi he hz hl en em rfl rfl h.1 h.2.1,xmi F _⟩
    ·exact h.elim
   ·exact h.elim
  ·exact h.elim
 ·exact h.elim
theorem xin {t:TypeId} {n:Nat} {parts:Array (Nat×Operand)} (hT:xaz P T) (hop:o.op=.buildSlice t n parts) (h:opS C T o F k) (hadd:xbb T F o=true):∃A tv,k (put (F.plus A) o.dst tv)∧Yields P o F A tv∧AOK F A:=by
 unfold opS at h
 rw [hop] at h
 simp only at h
 unfold xbb at hadd
 rw [hop] at hadd
 simp only at hadd
 split at h
 case h_2=>exact h.elim
 rename_i i hi
 rw [hi] at hadd
 simp only at hadd
 split at h
 case h_2=>exact h.elim
 rename_i e he
 split at h
 case h_2=>exact h.elim
 rename_i ps hps
 rw [hps] at hadd
 obtain ⟨h1,h2,h3,h4⟩:=h
 obtain ⟨inf,_,_,_,zv,_,e5⟩:=(hT.ty _ _ he).info
 have hz:=xfi e5
 have hsc:∀x∈ps,∀c∈x.2,xfL c=true:=fun x hx c hc=>List.all_eq_true.1 (List.all_eq_true.1 hadd x hx) c hc
 obtain ⟨rows,deep,g1,g2,g3⟩:=xmw hz hsc h4
 exact ⟨⟨[(F.next,⟨if (deep&&!(parts.isEmpty&&T.fl.contains i.elem))=true then .deep else .flat,i.elem,e.size,.list e.size rows⟩)],[],1⟩,_,g1,xkf (deep:=deep&&!(parts.isEmpty&&T.fl.contains i.elem)) hT hop hi he hps h1 h2 h3 g2 (fun {G w vl} hp=>by
  obtain ⟨cells,N,m1,m2,m3,m4,m5,m6⟩:=g3 hp
  exact ⟨cells,N,m1,m2,m3,m4,fun hd=>m5 (by simp only [Bool.and_eq_true] at hd;exact hd.1),m6⟩),xmi F _⟩
theorem xnO {t:TypeId} {x:Operand} {lo hi mx:Option Operand} (hT:xaz P T) (hop:o.op=.slice t x lo hi mx) (h:opS C T o F k) (hadd:xbb T F o=true):∃A tv,k (put (F.plus A) o.dst tv)∧Yields P o F A tv∧AOK F A:=by
 unfold opS at h
 rw [hop] at h
 simp only at h
 split at h
 ·rename_i c hmx ex
  obtain ⟨l,h,hl⟩:=xg7 h
  obtain ⟨u,h,hu⟩:=xg7 h
  split at h
  ·rename_i p
   split at h
   ·rename_i i hti
    split at h
    ·rename_i htag
     unfold xwt at h
     split at h
     ·exact kN _ h.2.2 (xsf hT hop hti htag ex rfl hl hu h.1 h.2.1)
     ·exact h.elim
    ·split at h
     ·exact h.elim
     ·rename_i h0
      unfold xf8 at h
      split at h
      ·obtain ⟨hs,h1,h2,h3⟩:=h
       subst hs
       exact kN _ h3 (xsg hT hop h0 ex rfl hl hu h1 h2)
      ·exact h.elim
   ·exact h.elim
  ·rename_i id
   unfold xbb at hadd
   simp [hop,ex] at hadd
  ·rename_i e sz
   split at h
   ·exact h.elim
   ·rename_i h0
    exact kN _ h.2.2 (xsh hT hop h0 ex hl hu h.1 h.2.1)
  ·exact h.elim
 ·exact h.elim
theorem xiP {s:TypeId} {x:Operand} {i:Nat} (hT:xaz P T) (hop:o.op=.fieldAddr s x i) (h:opS C T o F k):∃A tv,k (put (F.plus A) o.dst tv)∧Yields P o F A tv∧AOK F A:=by
 unfold opS at h
 rw [hop] at h
 simp only at h
 split at h
 ·rename_i b off ti ex hs
  split at h
  ·rename_i f hf
   split at h
   ·exact h.elim
   ·rename_i h0;exact kN _ h (xml hT hs (xls (hT.ty s ti hs) hf) hf h0 hop ex)
  ·exact h.elim
 ·rename_i cs ti ex hs
  split at h
  ·rename_i f hf
   split at h
   ·exact h.elim
   ·rename_i h0;exact kN _ h (xlx hT hs (xls (hT.ty s ti hs) hf) hf h0 hop ex)
  ·exact h.elim
 ·rename_i id sz j off ti ex hs
  split at h
  ·rename_i f hf
   split at h
   ·exact h.elim
   ·rename_i h0;exact kN _ h (xly hT hs (xls (hT.ty s ti hs) hf) hf h0 hop ex)
  ·exact h.elim
 ·exact h.elim
theorem xnQ {s:TypeId} {x:Operand} {i:Nat} (hT:xaz P T) (hop:o.op=.field s x i) (h:opS C T o F k):∃A tv,k (put (F.plus A) o.dst tv)∧Yields P o F A tv∧AOK F A:=by
 unfold opS at h
 rw [hop] at h
 simp only at h
 split at h
 ·rename_i cs ti ex hs
  split at h
  ·rename_i f hf
   split at h
   ·rename_i fi hfi
    split at h
    ·rename_i hag
     split at h
     ·rename_i hle;exact kN _ h (xne hT hs (xls (hT.ty s ti hs) hf) hf hfi hop ex (by rw [if_pos hag];exact ⟨hle,rfl⟩))
     ·exact h.elim
    ·rename_i hag
     split at h
     ·rename_i c hc;exact kN _ h (xne hT hs (xls (hT.ty s ti hs) hf) hf hfi hop ex (by rw [if_neg hag];exact ⟨c,hc,rfl⟩))
     ·exact h.elim
   ·exact h.elim
  ·exact h.elim
 ·exact h.elim
theorem xiO {t:TypeId} {x i:Operand} (hT:xaz P T) (hop:o.op=.indexAddr t x i) (h:opS C T o F k):∃A tv,k (put (F.plus A) o.dst tv)∧Yields P o F A tv∧AOK F A:=by
 unfold opS at h
 rw [hop] at h
 simp only at h
 split at h
 ·rename_i c n ex ei
  split at h
  ·rename_i p
   unfold xaj at h
   split at h
   ·rename_i s rows kn m
    obtain ⟨hs,h0,h⟩:=h
    subst hs
    split at h
    ·rename_i r hr
     exact kN _ h (xlw (p:=default) hT hop ex ei (fun _ _ _ _ _ _ _ v hv=>hv) rfl h0 hr)
    ·exact h.elim
   ·exact h.elim
  ·rename_i id
   split at h
   ·rename_i r hrow
    split at h
    ·rename_i hsz
     split at h
     ·rename_i hk
      unfold xaj at h
      split at h
      ·rename_i he
       rename_i s rows kn m
       obtain ⟨hs,h0,h⟩:=h
       split at h
       ·rename_i q hr
        refine kN _ h (xlw (p:=default) hT hop ex ei (rows:=rows) (fun w0 G F2 a w hL hR v hv=>?_) rfl h0 hr)
        have h1:=hR.rows id r v (hL.rows _ _ hrow) hv
        unfold xbk at h1
        rw [hk,he,hs] at h1
        exact h1
       ·exact h.elim
      ·exact h.elim
     ·rename_i hk
      unfold xdm at h
      split at h
      ·rename_i he
       rename_i s rows kn m
       obtain ⟨hs,h0,h1,h⟩:=h
       exact kN _ h (xpv hT hop ex ei hrow hk hsz (by rw [he,hs]) rfl h0 h1)
      ·exact h.elim
    ·exact h.elim
   ·exact h.elim
  ·exact h.elim
 ·exact h.elim
theorem xnP {t:TypeId} {x i:Operand} (hT:xaz P T) (hop:o.op=.index t x i) (h:opS C T o F k):∃A tv,k (put (F.plus A) o.dst tv)∧Yields P o F A tv∧AOK F A:=by
 unfold opS at h
 rw [hop] at h
 simp only at h
 split at h
 ·rename_i ti p n ht ex ei
  split at h
  ·rename_i htag
   unfold xeI at h
   split at h
   ·obtain ⟨h0,h⟩:=h
    split at h
    ·rename_i b hb;exact kN _ h (xqJ hT ht htag hop ex ei rfl rfl h0 hb)
    ·exact h.elim
   ·exact h.elim
  ·exact h.elim
 ·exact h.elim
theorem xlu {x:Operand} {n:Nat} (hop:o.op=.extract x n) (h:opS C T o F k):∃A tv,k (put (F.plus A) o.dst tv)∧Yields P o F A tv∧AOK F A:=by
 unfold opS at h
 rw [hop] at h
 simp only at h
 split at h
 ·rename_i vs ex
  split at h
  ·rename_i v hv;exact kN _ h (xnT hop ex hv)
  ·exact h.elim
 ·exact h.elim
theorem xpt {c:Call} (hT:xaz P T) (hC:xdx P T C) (hop:o.op=.call c) (h:opS C T o F k) (hadd:xbb T F o=true):∃A tv,k (put (F.plus A) o.dst tv)∧Yields P o F A tv∧AOK F A:=by
 unfold opS at h
 rw [hop] at h
 simp only at h
 split at h
 ·rename_i x hcal
  split at h
  ·rename_i f caps ex
   unfold xbb at hadd
   simp only [hop,hcal,ex] at hadd
   split at h
   ·rename_i e he
    simp only [he] at hadd
    cases hadd
   rename_i he
   simp only [he] at hadd
   split at h
   ·rename_i hmk
    unfold xqk at hmk
    split at hmk
    ·rename_i sg hsg
     simp only [hsg,hmk,Bool.not_true,Bool.false_and] at hadd
     cases hadd
    ·cases hmk
   split at h
   ·rename_i q hq
    unfold xr8 at h
    split at h
    ·rename_i sg hsg
     rw [hsg] at hadd
     simp only [Bool.and_eq_true,Bool.not_eq_true'] at hadd
     obtain ⟨hnm,hadd⟩:=hadd
     have hsh:=of_decide_eq_true hadd
     rw [if_pos hsh] at h
     split at h
     ·rename_i av hav
      obtain ⟨out,h1,h2⟩:=h
      exact ⟨⟨xdl F.next out 0 (xaA sg),[],(xaA sg).length⟩,_,h2,xmm hop hcal ex hq hav ((hC.call f sg hsg _ _ h1).1 hnm) hsh,xkb F out _⟩
     ·exact h.elim
    ·exact h.elim
   ·exact h.elim
  ·exact h.elim
 ·rename_i hcal
  obtain ⟨cal,args,ats⟩:=c
  simp only at hcal h
  subst hcal
  split at h
  ·rename_i x t e1 e2
   have e3:args=#[x]:=Array.ext' (by simpa using e1)
   have e4:ats=#[t]:=Array.ext' (by simpa using e2)
   subst e3;subst e4
   split at h
   ·rename_i a i ex hi
    split at h
    ·rename_i p hp
     split at h
     ·rename_i htag
      unfold xlV at h
      split at h
      ·exact kN _ h (xrj (aty:=0) hT hi hop ex hp (.inr ⟨_,rfl,rfl,htag⟩))
      ·exact h.elim
     ·split at h
      ·exact h.elim
      ·rename_i he
       unfold xaH at h
       split at h
       ·exact kN _ h (xrj (aty:=0) hT hi hop ex hp (.inl ⟨_,_,rfl,rfl,he⟩))
       ·exact h.elim
    ·exact h.elim
   ·exact h.elim
  ·exact h.elim
 ·rename_i hcal
  obtain ⟨cal,args,ats⟩:=c
  simp only at hcal h
  subst hcal
  split at h
  ·rename_i x t e1 e2
   have e3:args=#[x]:=Array.ext' (by simpa using e1)
   have e4:ats=#[t]:=Array.ext' (by simpa using e2)
   subst e3;subst e4
   split at h
   ·rename_i e sz i ex hi
    split at h
    ·exact h.elim
    ·rename_i he
     exact kN _ h (xsj hT hi he hop ex)
   ·exact h.elim
  ·exact h.elim
 ·rename_i hcal
  obtain ⟨cal,args,ats⟩:=c
  simp only at hcal h
  subst hcal
  split at h
  ·rename_i x y e1
   have e3:args=#[x,y]:=Array.ext' (by simpa using e1)
   subst e3
   split at h
   ·rename_i p q ex ey
    unfold xug at h
    split at h
    ·exact kN _ h (xtx hop ex ey rfl rfl)
    ·exact h.elim
   ·exact h.elim
  ·exact h.elim
 ·rename_i hcal
  obtain ⟨cal,args,ats⟩:=c
  simp only at hcal h
  subst hcal
  split at h
  ·rename_i x y e1
   have e3:args=#[x,y]:=Array.ext' (by simpa using e1)
   subst e3
   split at h
   ·rename_i p q ex ey
    unfold xuh at h
    split at h
    ·exact kN _ h (xty hop ex ey rfl rfl)
    ·exact h.elim
   ·exact h.elim
  ·exact h.elim
 ·rename_i hcal
  unfold xbb at hadd
  obtain ⟨cal,args,ats⟩:=c
  simp only at hcal h
  subst hcal
  simp only [hop] at hadd
  split at hadd
  ·rename_i x y t u e1 e2
   have e3:args=#[x,y]:=Array.ext' (by simpa using e1)
   have e4:ats=#[t,u]:=Array.ext' (by simpa using e2)
   subst e3;subst e4
   simp only [Bool.and_eq_true,decide_eq_true_eq] at hadd
   obtain ⟨htu,hadd⟩:=hadd
   subst htu
   split at hadd
   ·rename_i ex
    simp only [if_true,ex] at h
    split at h
    ·rename_i h1 h2 h3;cases h2
    ·rename_i i p hi _ ey
     split at h
     ·exact h.elim
     ·rename_i h0
      cases p with
      | list s rows =>
       have h:s=T.sz i.elem∧T.sz i.elem=T.sz i.elem∧rows.length+0<1073741824∧k (put F o.dst (.one (.pv (.list s (rows++[]))))):=h
       obtain ⟨hs,_,hl,h⟩:=h
       rw [List.append_nil] at h
       cases he:lk T.ti i.elem with
       | none=>exact absurd (by simp [Tab.sz,he]) h0
       | some e =>
        have hs2:T.sz i.elem=e.size:=by simp [Tab.sz,he]
        rw [hs2] at hs
        subst hs
        exact kN _ h (xsk hT hop hi he ex ey hl)
      | _=>exact h.elim
    ·exact h.elim
   ·cases hadd
  ·cases hadd
 ·exact h.elim
theorem xkc {x:Operand} (hop:o.op=.nilCheck x) (h:opS C T o F k):∃A tv,k (put (F.plus A) o.dst tv)∧Yields P o F A tv∧AOK F A:=by
 unfold opS at h
 rw [hop] at h
 simp only at h
 split at h
 ·rename_i b off ex
  refine kN _ h (xay fun w0 G F2 a w hL hR=>?_)
  have hp:=hR.eval T 0 x _ (xaF hL (fun t ht=>by simp [looks,hop,Op.operands,ht]) ex)
  obtain ⟨g,h1,h2⟩:=hp
  exact ⟨a.eval x,by simp [execOp,hop,h2],g,h1,h2⟩
 ·exact h.elim
theorem xjI (hT:xaz P T) (hC:xdx P T C) (h:opS C T o F k) (hadd:xbb T F o=true):∃A tv,k (put (F.plus A) o.dst tv)∧Yields P o F A tv∧AOK F A:=by
 cases hop:o.op with
 | move x=>unfold opS at h;rw [hop] at h;exact xlt (.inl hop) h
 | assign x=>unfold opS at h;rw [hop] at h;exact xlt (.inr hop) h
 | pick c x y=>exact xpq hop h
 | nilCheck x=>exact xkc hop h
 | alloc t=>exact xnS hT hop h
 | box t x=>exact xqG hop h
 | build t parts=>exact xnR hT hop h
 | load t x=>exact xpr hT hop h hadd
 | binOp op t x y t'=>exact xqH hT hop h hadd
 | unOp op t x=>exact xsd hop h
 | convert s d x=>exact xps hT hop h
 | makeFunc f first caps=>cases f with
  | func f=>exact xkd hop h
  | _=>unfold opS at h;simp [hop] at h
 | makeSlice t n m=>exact xiN hT hop h
 | buildSlice t n parts=>exact xin hT hop h hadd
 | slice t x lo hi mx=>exact xnO hT hop h hadd
 | fieldAddr s x i=>exact xiP hT hop h
 | field s x i=>exact xnQ hT hop h
 | indexAddr t x i=>exact xiO hT hop h
 | index t x i=>exact xnP hT hop h
 | extract x i=>exact xlu hop h
 | call c=>exact xpt hT hC hop h hadd
 | _=>unfold xbb at hadd;simp [hop] at hadd
end
end Go.Ev
/- An operation that may float: it reads only what nobody turns before it comes up. -/
namespace Go.Ev
open Go.RowKit
def xby (w1 w:World):Prop:=w1.heap.size≤w.heap.size∧∀x,x<w1.heap.size→w.heap[x]? = w1.heap[x]?
theorem xby.refl (w:World):xby w w:=⟨Nat.le_refl _,fun _ _=>rfl⟩
theorem xby.trans {a b c:World} (h:xby a b) (k:xby b c):xby a c:=⟨Nat.le_trans h.1 k.1,fun x hx=>(k.2 x (Nat.lt_of_lt_of_le hx h.1)).trans (h.2 x hx)⟩
theorem xby.alloc (w:World) (o:Obj):xby w (w.alloc o):=⟨by simp,fun x hx=>heap_alloc_old w o x hx⟩
variable {P : Program}
def Grows {α:Type} (P:Program) (s:Sem α):Prop:=∀w r w',s.run P w=.ok r w'→xby w w'
theorem Grows.pure {α:Type} (x:α):Grows P (pure x:Sem α):=fun w r w' h=>by
 rw [Sem.run_pure] at h;injection h with _ h;subst h;exact .refl _
theorem Grows.bind {α β:Type} {s:Sem α} {f:α→Sem β} (hs:Grows P s) (hf:∀x,Grows P (f x)):Grows P (s >>= f):=fun w r w' h=>by
 rw [Sem.run_bind] at h
 cases hq:s.run P w with
 | halt x w1=>rw [hq] at h;cases h
 | ok v w1 =>
  rw [hq,Result.andThen_ok] at h
  exact (hs _ _ _ hq).trans (hf v _ _ _ h)
theorem Grows.stuck {α:Type} (m:String):Grows P (stuck m:Sem α):=fun w r w' h=>by cases h
theorem Grows.unsupported {α:Type} (m:Unsupported):Grows P (unsupported m:Sem α):=fun w r w' h=>by cases h
theorem xfX:Grows P program:=fun w r w' h=>by rw [run_program] at h;injection h with _ h;subst h;exact .refl _
theorem xjj (a:Addr):Grows P (load a):=fun w r w' h=>by
 unfold load at h
 rw [Sem.run] at h
 split at h
 ·rw [show (Sem.pure _:Sem Value)=(Pure.pure _:Sem Value) from rfl,Sem.run_pure] at h
  injection h with _ h;subst h;exact .refl _
 ·split at h
  ·rw [show (Sem.pure _:Sem Value)=(Pure.pure _:Sem Value) from rfl,Sem.run_pure] at h
   injection h with _ h;subst h;exact .refl _
  ·cases h
theorem xkT (o:Obj):Grows P (newObj o):=fun w r w' h=>by
 rw [run_newObj_alloc] at h;injection h with _ h;subst h;exact .alloc _ _
theorem xcr (t:TypeId):Grows P (underlying t):=by
 unfold underlying
 refine xfX.bind fun p=>?_
 split
 ·exact .pure _
 ·exact .stuck _
theorem xdJ (t:TypeId):Grows P (typeInfo t):=by
 unfold typeInfo
 refine xfX.bind fun p=>?_
 split
 ·exact .pure _
 ·exact .stuck _
theorem xeG (t:TypeId):Grows P (sizeOf t):=(xdJ t).bind fun i=>.pure _
theorem xeF (t:TypeId):Grows P (zeroValue t):=by
 unfold zeroValue
 refine (xdJ t).bind fun i=>?_
 split
 ·exact .pure _
 ·exact .unsupported _
theorem xh3 (t:TypeId):Grows P (isAgg t):=by
 unfold isAgg
 refine (xcr t).bind fun d=>?_
 split<;>exact .pure _
theorem xh2 (a:Addr):∀(n i:Nat) (acc:Array Value),Grows P (loadCellsFrom a i n acc)
 | 0,i,acc=>.pure _
 | n+1,i,acc=>(xjj _).bind fun v=>xh2 a n _ _
theorem xjY (t:TypeId) (a:Addr):Grows P (loadVar t a):=by
 unfold loadVar
 refine (xh3 t).bind fun b=>?_
 split
 ·exact (xeG t).bind fun n=>(xh2 a n 0 #[]).bind fun r=>.pure _
 ·exact xjj a
theorem xiJ (v:Value):Grows P (Instr.sureAddr v):=by
 unfold Instr.sureAddr
 split
 ·exact .pure _
 ·exact .stuck _
theorem xds (e:TypeId) (c:Array Value):Grows P (Go.newRow e c):=(xkT _).bind fun r=>.pure _
theorem xg0 (t:TypeId) (n:Nat) (ps:Array (Nat×Value)):Grows P (Instr.buildSlice t n ps):=by
 unfold Instr.buildSlice
 refine (xcr t).bind fun d=>?_
 split
 rotate_left
 ·exact .stuck _
 refine (xeG _).bind fun sz=>?_
 dsimp only
 split
 ·exact Grows.bind (.unsupported _) fun _=>by
   split
   ·refine Grows.bind (.pure _) fun zero=>?_
    split
    ·exact (xds _ _).bind fun _=>.pure _
    ·exact .stuck _
   ·refine (xeF _).bind fun z=>Grows.bind (.pure _) fun zero=>?_
    split
    ·exact (xds _ _).bind fun _=>.pure _
    ·exact .stuck _
 ·split
  ·refine Grows.bind (.pure _) fun zero=>?_
   split
   ·exact (xds _ _).bind fun _=>.pure _
   ·exact .stuck _
  ·refine (xeF _).bind fun z=>Grows.bind (.pure _) fun zero=>?_
   split
   ·exact (xds _ _).bind fun _=>.pure _
   ·exact .stuck _
theorem xnB (t:TypeId) (cs:Array Value) (off:Nat):Grows P (part t cs off):=by
 unfold part
 refine (xh3 t).bind fun b=>?_
 split
 ·exact (xeG t).bind fun n=>.pure _
 ·split
  ·exact .pure _
  ·exact .stuck _
theorem xci:∀(l:List FieldStep) (t:TypeId) (x:Option Value),Grows P (followBlind l t x)
 | [],t,x=>.pure _
 | s::rest,t,x=>by
  unfold followBlind
  refine (xcr _).bind fun d=>?_
  split
  rotate_left
  ·exact .stuck _
  split
  rotate_left
  ·exact .stuck _
  split
  ·exact .pure _
  ·exact xci rest _ _
  ·exact .stuck _
  ·exact .pure _
  ·exact (xnB _ _ _).bind fun v=>xci rest _ _
  ·exact .stuck _
  ·exact xci rest _ _
theorem xfd:∀(n:Nat) (t:TypeId) (v:Value) (name:String),Grows P (nilAhead n t v name)
 | 0,_,_,_=>.pure _
 | n+1,t,v,name=>by
  unfold nilAhead
  refine (xdJ t).bind fun i=>?_
  split
  rotate_left
  ·exact .stuck _
  refine (xci _ _ _).bind fun r=>?_
  split
  ·exact .pure _
  ·split
   ·exact xfd n _ _ _
   ·exact .pure _
   ·exact .stuck _
   ·exact .pure _
   ·exact .pure _
   ·refine (xcr _).bind fun d=>?_
    split<;>exact .pure _
theorem xed {s:Sem Value} (h:Grows P s) {w:World} {r:Next} {w':World} (hr:(do pure (.value (←s)):Sem Next).run P w=.ok r w'):(∃v,r=.value v)∧xby w w':=by
 rw [Sem.run_bind] at hr
 cases hs:s.run P w with
 | halt x w1=>rw [hs] at hr;cases hr
 | ok v w1 =>
  rw [hs,Result.andThen_ok,Sem.run_pure] at hr
  injection hr with h3 h4
  subst h3;subst h4
  exact ⟨⟨v,rfl⟩,h _ _ _ hs⟩
theorem xoZ {T : Tab} (hT : xaz P T) {s : TypeId} {i : Nat} (h : xuk T s i = true) : ∃ off, ∀ (v : Value) (w : World), (Instr.fieldAt s v i).run P w = match v with | .pointer (some a) => .ok (.pointer (some (a.add off))) w | _ => .halt (.stuck "an address expected (no nilCheck in front?)") w := by
 unfold xuk at h
 split at h
 ·rename_i ti hti
  split at h
  ·rename_i f hf
   have h0:T.sz f.2≠0:=of_decide_eq_true h
   have hty:=hT.ty s ti hti
   cases hag:ti.agg with
   | false=>rw [hty.nofl hag] at hf;simp at hf
   | true =>
    obtain ⟨fs,h1,h2⟩:=hty.agg hag
    have h3:(fs.toList.map fun f=>(f.offset,f.type))[i]? = some f:=by rw [h2];exact hf
    rw [List.getElem?_map] at h3
    cases hfi:fs.toList[i]? with
    | none=>rw [hfi] at h3;cases h3
    | some fd =>
     rw [hfi] at h3
     injection h3 with h3
     have hfi':fs[i]? = some fd:=by rw [←Array.getElem?_toList];exact hfi
     have hsz:∀w,(sizeOf fd.type).run P w=.ok (T.sz f.2) w:=by
      intro w
      have:fd.type=f.2:=by rw [←h3]
      rw [this]
      cases hj:lk T.ti f.2 with
      | none=>exact absurd (by simp [Tab.sz,hj]) h0
      | some j =>
       have e:T.sz f.2=j.size:=by simp [Tab.sz,hj]
       rw [e]
       exact xa3 (hT.ty _ j hj) w
     refine ⟨fd.offset,fun v w=>?_⟩
     simp only [Instr.fieldAt,Sem.run_bind,run_underlying h1,Result.andThen_ok,hfi']
     by_cases hv:∃a,v=.pointer (some a)
     ·obtain ⟨a,rfl⟩:=hv
      simp [Instr.sureAddr,fieldPlace,hsz,h0]
     ·have e1 : (Instr.sureAddr v).run P w = .halt (.stuck "an address expected (no nilCheck in front?)") w := by
       unfold Instr.sureAddr
       split
       ·exact absurd ⟨_,rfl⟩ hv
       ·rfl
      rw [e1]
      split
      ·exact absurd ⟨_,rfl⟩ hv
      ·rfl
  ·cases h
 ·cases h
theorem xom {T:Tab} (hT:xaz P T) {o:Oper} (h:xgE T o=true) (ev:Operand→Value) {w:World} {r:Next} {w':World} (hr:(execOp ev o).run P w=.ok r w'):(∃v,r=.value v)∧xby w w':=by
 unfold xgE at h
 split at h
 ·rename_i x n hop
  simp only [execOp,hop] at hr
  refine xed ?_ hr
  unfold Instr.extract
  split
  ·split
   ·exact .pure _
   ·exact .stuck _
  ·exact .stuck _
 ·rename_i x hop
  simp only [execOp,hop,Sem.run_pure] at hr
  injection hr with h1 h2
  subst h1;subst h2
  exact ⟨⟨_,rfl⟩,.refl _⟩
 ·rename_i x hop
  simp only [execOp,hop,Sem.run_pure] at hr
  injection hr with h1 h2
  subst h1;subst h2
  exact ⟨⟨_,rfl⟩,.refl _⟩
 ·rename_i x hop
  simp only [execOp,hop] at hr
  split at hr
  ·cases hr
  ·cases hr
  ·cases hr
  ·split at hr
   ·cases hr
   ·rename_i name first captured _ _ t w2 _
    rw [Sem.run_bind,run_program,Result.andThen_ok,Sem.run_bind] at hr
    have hg:=xfd (P:=P) (P.types.size+Made.depth) t w2 name w
    cases hn:(nilAhead (P.types.size+Made.depth) t w2 name).run P w with
    | halt x w1=>rw [hn] at hr;cases hr
    | ok q w1 =>
     rw [hn,Result.andThen_ok] at hr
     split at hr
     ·cases hr
     ·rw [Sem.run_pure] at hr
      injection hr with h1 h2
      subst h1;subst h2
      exact ⟨⟨_,rfl⟩,hg _ _ hn⟩
   ·rw [Sem.run_pure] at hr;injection hr with h1 h2;subst h1;subst h2;exact ⟨⟨_,rfl⟩,.refl _⟩
  ·rw [Sem.run_pure] at hr;injection hr with h1 h2;subst h1;subst h2;exact ⟨⟨_,rfl⟩,.refl _⟩
 ·rename_i t x hop
  simp only [execOp,hop] at hr
  exact xed ((xiJ _).bind fun a=>xjY t a) hr
 ·rename_i t n ps hop
  simp only [execOp,hop] at hr
  exact xed (xg0 _ _ _) hr
 ·rename_i s x i hop
  obtain ⟨off,hf⟩:=xoZ hT h
  simp only [execOp,hop] at hr
  refine xed (fun w r w' h=>?_) hr
  rw [hf] at h
  split at h
  ·injection h with _ h;subst h;exact .refl _
  ·cases h
 ·cases h
end Go.Ev
/- A region whose operations come up in any order. -/
namespace Go.Ev
open Go.RowKit
def Ref (x y:TV):Prop:=y=x∨∃b,x=.one (.pv (.bool b))∧y=.one (.kb b)
theorem Ref.rfl' {x:TV}:Ref x x:=.inl rfl
theorem Ref.trans {x y z:TV} (h:Ref x y) (k:Ref y z):Ref x z:=by
 rcases h with rfl | ⟨b,rfl,rfl⟩
 ·exact k
 ·rcases k with rfl | ⟨b',h,_⟩
  ·exact .inr ⟨b,rfl,rfl⟩
  ·cases h
theorem Ref.iff {x y:TV} (h:Ref x y) {G:Gh} {w:World} {v:Value}:xcy G w x v↔xcy G w y v:=by
 rcases h with rfl | ⟨b,rfl,rfl⟩
 ·exact Iff.rfl
 ·constructor
  ·intro h;exact xbp.bool_inv h
  ·intro h;have:v=.bool b:=h;subst this;exact xbp.bool
def xlC:Option TV→Option TV→Prop
 | none,none=>True
 | some a,some b=>Ref a b
 | _,_=>False
theorem xlC.refl:∀x,xlC x x
 | none=>trivial
 | some _=>.rfl'
theorem xlC.trans {x y z:Option TV} (h:xlC x y) (k:xlC y z):xlC x z:=by
 cases x<;>cases y<;>cases z<;>simp [xlC] at h k ⊢
 exact h.trans k
theorem xlC.fwd {x y:Option TV} {a:TV} (h:xlC x y) (e:x=some a):∃b,y=some b∧Ref a b:=by
 subst e;cases y with
 | none=>exact h.elim
 | some b=>exact ⟨b,rfl,h⟩
theorem xlC.bwd {x y:Option TV} {b:TV} (h:xlC x y) (e:y=some b):∃a,x=some a∧Ref a b:=by
 subst e;cases x with
 | none=>exact h.elim
 | some a=>exact ⟨a,rfl,h⟩
def xb2 (all:List Oper) (F:Fr) (o:Oper) (b:Bool) (F':Fr):Prop:=match o.guard with
 | none=>b=true∧F'=F
 | some (j,want)=>∃oj d,all[j]? = some oj∧oj.dst=some d∧((∃t,((lk F.tmps d=some (.one (.kb t))∧F'=F)∨(lk F.tmps d=some (.one (.pv (.bool t)))∧F'=knows F d t))∧b=(t==want))∨(lk F.tmps d=some .undef∧F'=F∧b=false))
def Steps (P:Program) (all:List Oper):List Oper→Fr→List (Fr×Option (Adds×TV))→Fr→Prop
 | [],F,p,F'=>p=[]∧F'=F
 | o::l,F,p,F'=>∃(x:Option (Adds×TV)) (r:List (Fr×Option (Adds×TV))) (F1:Fr) (b:Bool),p=(F1,x)::r∧xb2 all F o b F1∧(match x with
  | some (A,tv)=>b=true∧Yields P o F1 A tv∧AOK F1 A∧Steps P all l (put (F1.plus A) o.dst tv) r F'
  | none=>b=false∧Steps P all l (put F1 o.dst .undef) r F')
section
variable {P : Program} {T : Tab} {C : Orac} {all : List Oper}
theorem xeT {F:Fr} {o:Oper} {j:Nat} {want:Bool} {k1 k2:Fr→Prop} (hg:o.guard=some (j,want)) (h:xji all F j want k1 k2):∃b F1,xb2 all F o b F1∧if b=true then k1 F1 else k2 F1:=by
 unfold xji at h
 split at h
 ·rename_i oj hj
  split at h
  ·rename_i d hd
   split at h
   ·rename_i b e
    refine ⟨b==want,F,?_,?_⟩
    ·unfold xb2;rw [hg];exact ⟨oj,d,hj,hd,.inl ⟨b,.inl ⟨e,rfl⟩,rfl⟩⟩
    ·by_cases hb:b=want
     ·subst hb;simpa using h
     ·rw [if_neg hb] at h;simpa [hb] using h
   ·rename_i p e
    have key:∀(t:Bool) (K:Prop),p=.bool t→xb2 all F o (t==want) (knows F d t):=by
     intro t K hp
     unfold xb2;rw [hg]
     subst hp
     exact ⟨oj,d,hj,hd,.inl ⟨t,.inr ⟨e,rfl⟩,rfl⟩⟩
    split at h
    ·rename_i hw
     unfold xad at h
     split at h
     ·rename_i t
      refine ⟨_,_,key t True rfl,?_⟩
      cases t<;>simp [hw] at h ⊢<;>exact h
     ·exact h.elim
    ·rename_i hw
     have hw':want=false:=by simpa using hw
     unfold xad at h
     split at h
     ·rename_i t
      refine ⟨_,_,key t True rfl,?_⟩
      cases t<;>simp [hw'] at h ⊢<;>exact h
     ·exact h.elim
   ·rename_i e
    refine ⟨false,F,?_,by simpa using h⟩
    unfold xb2;rw [hg];exact ⟨oj,d,hj,hd,.inr ⟨e,rfl,rfl⟩⟩
   ·exact h.elim
  ·exact h.elim
 ·exact h.elim
theorem xlD (F:Fr):Yields P idle F .none (.one (.kb false)) :=
 xay fun w0 G F2 a w _ _=>⟨.bool false,by simp [execOp,idle,Act.eval]<;>rfl,rfl⟩
theorem Steps.idle {l:List Oper} {F F':Fr} {p:List (Fr×Option (Adds×TV))} (h:Steps P all l F p F'):Steps P all (idle::l) F ((F,some (.none,.one (.kb false)))::p) F' :=
 ⟨some (.none,.one (.kb false)),p,F,true,rfl,⟨rfl,rfl⟩,rfl,xlD F,.none F,by rw [Fr.plus_none];exact h⟩
theorem xgi (hT:xaz P T) (hC:xdx P T C) {k:List Nat→Fr→Prop}:∀(l:List Oper) (i:Nat) (m:List Nat) (F:Fr),(∀x∈m,x<i)→m.Pairwise (·>·)→xnt C T all i m l F k →
 ∃m' p F',Steps P all (early m' i l) F p F'∧k m' F'∧(∀x,x<i→(x∈m'↔x∈m))∧m'.Pairwise (·>·)
 | [],i,m,F,_,hp,h=>⟨m,[],F,⟨rfl,rfl⟩,by unfold xnt at h;exact h,fun _ _=>Iff.rfl,hp⟩
 | o::l,i,m,F,hm,hp,h=>by
  have hm0:∀x∈m,x<i+1:=fun x hx=>Nat.lt_succ_of_lt (hm x hx)
  have late:xnt C T all (i+1) (i::m) l F k→∃m' p F',Steps P all (early m' i (o::l)) F p F'∧k m' F'∧(∀x,x<i→(x∈m'↔x∈m))∧m'.Pairwise (·>·):=by
   intro h
   obtain ⟨m',p,F',h1,h2,h3,h4⟩:=xgi hT hC l (i+1) (i::m) F (fun x hx=>by rcases List.mem_cons.1 hx with rfl | hx;exact Nat.lt_succ_self _;exact hm0 x hx) (List.pairwise_cons.2 ⟨fun x hx=>hm x hx,hp⟩) h
   refine ⟨m',(F,some (.none,.one (.kb false)))::p,F',?_,h2,fun x hx=>?_,h4⟩
   ·unfold early
    rw [if_pos (by simpa using (h3 i (Nat.lt_succ_self _)).2 (by simp))]
    exact h1.idle
   ·rw [h3 x (Nat.lt_succ_of_lt hx),List.mem_cons]
    exact ⟨fun h=>h.elim (fun h=>by omega) id,.inr⟩
  have rest:∀F0,xnt C T all (i+1) m l F0 k→∃m' p F',Steps P all (early m' (i+1) l) F0 p F'∧k m' F'∧(∀x,x<i→(x∈m'↔x∈m))∧m'.Pairwise (·>·)∧early m' i (o::l)=o::early m' (i+1) l:=by
   intro F0 h
   obtain ⟨m',p,F',h1,h2,h3,h4⟩:=xgi hT hC l (i+1) m F0 hm0 hp h
   refine ⟨m',p,F',h1,h2,fun x hx=>h3 x (Nat.lt_succ_of_lt hx),h4,?_⟩
   have hno:i∉m':=fun h=>Nat.lt_irrefl _ (hm i ((h3 i (Nat.lt_succ_self _)).1 h))
   conv=>lhs;unfold early
   rw [if_neg (by simpa using hno)]
  unfold xnt at h
  split at h
  ·exact late h
  split at h
  ·rename_i hg
   split at h
   ·rename_i hmt
    obtain ⟨m',p,F',h4,h5,h6,h7,h8⟩:=rest _ h
    refine ⟨m',(F,some (.none,.mt))::p,F',?_,h5,h6,h7⟩
    rw [h8]
    exact ⟨some (.none,.mt),p,F,true,rfl,by unfold xb2;rw [hg];exact ⟨rfl,rfl⟩,rfl,xuQ hT (Bool.and_eq_true _ _▸hmt:(!T.mv)=true∧mtB T all o=true).2,.none F,by rw [Fr.plus_none];exact h4⟩
   split at h
   case isFalse=>exact late h
   rename_i hadd
   obtain ⟨A,tv,h1,h2,h3⟩:=xjI hT hC h hadd
   obtain ⟨m',p,F',h4,h5,h6,h7,h8⟩:=rest _ h1
   refine ⟨m',(F,some (A,tv))::p,F',?_,h5,h6,h7⟩
   rw [h8]
   exact ⟨some (A,tv),p,F,true,rfl,by unfold xb2;rw [hg];exact ⟨rfl,rfl⟩,rfl,h2,h3,h4⟩
  ·rename_i j want hg
   obtain ⟨b,F1,h1,h2⟩:=xeT hg h
   cases b with
   | true =>
    rw [if_pos rfl] at h2
    split at h2
    case isFalse=>exact late h2
    rename_i hadd
    obtain ⟨A,tv,h3,h4,h5⟩:=xjI hT hC h2 hadd
    obtain ⟨m',p,F',h6,h7,h8,h9,h10⟩:=rest _ h3
    refine ⟨m',(F1,some (A,tv))::p,F',?_,h7,h8,h9⟩
    rw [h10]
    exact ⟨some (A,tv),p,F1,true,rfl,h1,rfl,h4,h5,h6⟩
   | false =>
    rw [if_neg (by simp)] at h2
    obtain ⟨m',p,F',h6,h7,h8,h9,h10⟩:=rest _ h2
    refine ⟨m',(F1,none)::p,F',?_,h7,h8,h9⟩
    rw [h10]
    exact ⟨none,p,F1,false,rfl,h1,rfl,h6⟩
theorem xk9 (m:List Nat):∀(l:List Oper) (i j:Nat),(early m i l)[j]? = l[j]?.map fun o=>if m.contains (i+j)=true then Ev.idle else o
 | [],i,j=>by simp [early]
 | o::l,i,0=>by simp [early]
 | o::l,i,j+1=>by
  simp only [early,List.getElem?_cons_succ]
  rw [xk9 m l (i+1) j,show i+1+j=i+(j+1) by omega]
theorem xia (m:List Nat):∀(l:List Oper) (i:Nat),(early m i l).length=l.length
 | [],_=>rfl
 | _::l,i=>by simp [early,xia m l]
theorem xb2.same {F F1:Fr} {o:Oper} {b:Bool} (h:xb2 all F o b F1):F1.rows=F.rows∧F1.boxes=F.boxes∧F1.next=F.next∧F1.nt=F.nt∧∀t,xlC (lk F.tmps t) (lk F1.tmps t):=by
 unfold xb2 at h
 split at h
 ·obtain ⟨_,rfl⟩:=h;exact ⟨rfl,rfl,rfl,rfl,fun t=>.refl _⟩
 ·obtain ⟨oj,d,h1,h2,⟨t,h3,h4⟩ | ⟨h3,rfl,_⟩⟩:=h
  rotate_left
  ·exact ⟨rfl,rfl,rfl,rfl,fun t=>.refl _⟩
  rcases h3 with ⟨_,rfl⟩ | ⟨h3,rfl⟩
  ·exact ⟨rfl,rfl,rfl,rfl,fun t=>.refl _⟩
  ·refine ⟨rfl,rfl,rfl,rfl,fun u=>?_⟩
   show xlC _ (if d=u then _ else _)
   split
   ·rename_i e;subst e;rw [h3];exact .inr ⟨t,rfl,rfl⟩
   ·exact .refl _
theorem xb2.pin {F F1:Fr} {o:Oper} {b:Bool} (h:xb2 all F o b F1):F1.pin=F.pin:=by
 unfold xb2 at h
 split at h
 ·obtain ⟨_,rfl⟩:=h;rfl
 ·obtain ⟨oj,d,h1,h2,⟨t,h3,h4⟩ | ⟨h3,rfl,_⟩⟩:=h
  ·rcases h3 with ⟨_,rfl⟩ | ⟨h3,rfl⟩<;>rfl
  ·rfl
theorem xoo (F:Fr) (d:Option Tmp) (v:TV):(put F d v).pin=F.pin:=by
 cases d with
 | none=>rfl
 | some d=>simp only [put];split<;>rfl
theorem xcV (F:Fr) (d:Option Tmp) (v:TV):(put F d v).rows=F.rows∧(put F d v).boxes=F.boxes∧(put F d v).next=F.next∧(put F d v).nt=F.nt:=by
 cases d with
 | none=>exact ⟨rfl,rfl,rfl,rfl⟩
 | some d=>simp only [put];split<;>exact ⟨rfl,rfl,rfl,rfl⟩
theorem xev {F:Fr} {d:Option Tmp} {v:TV} {t:Nat} (h:d≠some t):lk (put F d v).tmps t=lk F.tmps t:=by
 cases d with
 | none=>rfl
 | some d =>
  simp only [put]
  split
  ·simp only [xas];rw [if_neg (fun e=>h (by rw [e]))]
  ·rfl
theorem xky {F:Fr} {v:TV} {t:Nat} (h:t<F.nt):lk (put F (some t) v).tmps t=some v:=by
 simp [put,h,xas]
structure Grow (F F':Fr):Prop where
 next:F.next≤F'.next
 nt:F'.nt=F.nt
 pin:F'.pin=F.pin
 row:∀id,id<F.next→lk F'.rows id=lk F.rows id
 box:∀id,id<F.next→lk F'.boxes id=lk F.boxes id
theorem Grow.refl (F:Fr):Grow F F:=⟨Nat.le_refl _,rfl,rfl,fun _ _=>rfl,fun _ _=>rfl⟩
theorem Grow.trans {A B D:Fr} (h:Grow A B) (k:Grow B D):Grow A D :=
 ⟨Nat.le_trans h.next k.next,k.nt.trans h.nt,k.pin.trans h.pin,fun id hi=>(k.row id (Nat.lt_of_lt_of_le hi h.next)).trans (h.row id hi),fun id hi=>(k.box id (Nat.lt_of_lt_of_le hi h.next)).trans (h.box id hi)⟩
theorem xs7 {α:Type} (l m:List (Nat×α)) (i:Nat):lk (l++m) i=match lk l i with | some v=>some v | none=>lk m i:=xbB l m i
theorem xoW {F:Fr} {A:Adds} (h:AOK F A) (d:Option Tmp) (v:TV):Grow F (put (F.plus A) d v):=by
 obtain ⟨e1,e2,e3,e4⟩:=xcV (F.plus A) d v
 refine ⟨by rw [e3];exact Nat.le_add_right _ _,e4,xoo _ _ _,fun id hi=>?_,fun id hi=>?_⟩
 ·rw [e1]
  show lk (A.rows++F.rows) id=_
  rw [xbB]
  cases hh:lk A.rows id with
  | none=>rfl
  | some r=>have:=(h.row id r hh).1;omega
 ·rw [e2]
  show lk (A.boxes++F.boxes) id=_
  rw [xbB]
  cases hh:lk A.boxes id with
  | none=>rfl
  | some r=>have:=(h.box id r hh).1;omega
theorem xkU {F F':Fr} (h1:F'.rows=F.rows) (h2:F'.boxes=F.boxes) (h3:F'.next=F.next) (h4:F'.nt=F.nt) (h5:F'.pin=F.pin):Grow F F' :=
 ⟨by rw [h3];exact Nat.le_refl _,h4,h5,fun id _=>by rw [h1],fun id _=>by rw [h2]⟩
structure Keys (F:Fr):Prop where
 row:∀id r,lk F.rows id=some r→id<F.next
 box:∀id r,lk F.boxes id=some r→id<F.next
 dis:∀id r c,lk F.rows id=some r→lk F.boxes id=some c→False
theorem xkK {F:Fr} {A:Adds} (hk:Keys F) (h:AOK F A) (d:Option Tmp) (v:TV):Keys (put (F.plus A) d v):=by
 obtain ⟨e1,e2,e3,e4⟩:=xcV (F.plus A) d v
 refine ⟨fun id r hi=>?_,fun id r hi=>?_,fun id r c hi hj=>?_⟩
 rotate_left 2
 ·rw [e1] at hi
  rw [e2] at hj
  have hi':lk (A.rows++F.rows) id=some r:=hi
  have hj':lk (A.boxes++F.boxes) id=some c:=hj
  rw [xbB] at hi' hj'
  split at hi'
  ·rename_i r' h1
   split at hj'
   ·rename_i c' h2;exact h.dis id _ _ h1 h2
   ·have:=hk.box id c hj';have:=(h.row id r' h1).1;omega
  ·split at hj'
   ·rename_i c' h2;have:=hk.row id r hi';have:=(h.box id c' h2).1;omega
   ·exact hk.dis id r c hi' hj'
 ·rw [e1] at hi
  rw [e3]
  show id<F.next+A.n
  have hi':lk (A.rows++F.rows) id=some r:=hi
  rw [xbB] at hi'
  split at hi'
  ·rename_i r' hh;exact (h.row id r' hh).2
  ·have:=hk.row id r hi';omega
 ·rw [e2] at hi
  rw [e3]
  show id<F.next+A.n
  have hi':lk (A.boxes++F.boxes) id=some r:=hi
  rw [xbB] at hi'
  split at hi'
  ·rename_i r' hh;exact (h.box id r' hh).2
  ·have:=hk.box id r hi';omega
theorem xhQ {F F':Fr} (hk:Keys F) (h1:F'.rows=F.rows) (h2:F'.boxes=F.boxes) (h3:F'.next=F.next):Keys F' :=
 ⟨fun id r h=>by rw [h3];exact hk.row id r (by rw [←h1];exact h),fun id r h=>by rw [h3];exact hk.box id r (by rw [←h2];exact h),fun id r c h h'=>hk.dis id r c (by rw [←h1];exact h) (by rw [←h2];exact h')⟩
theorem Steps.grow:∀{l:List Oper} {F F':Fr} {p:List (Fr×Option (Adds×TV))},Steps P all l F p F'→Grow F F'
 | [],F,F',p,⟨_,h⟩=>by subst h;exact .refl _
 | o::l,F,F',p,⟨x,r,F1,b,_,hg,h⟩=>by
  obtain ⟨e1,e2,e3,e4,_⟩:=hg.same
  have g1:Grow F F1:=xkU e1 e2 e3 e4 hg.pin
  split at h
  ·exact g1.trans ((xoW h.2.2.1 _ _).trans (Steps.grow h.2.2.2))
  ·obtain ⟨k1,k2,k3,k4⟩:=xcV F1 o.dst .undef
   exact g1.trans ((xkU k1 k2 k3 k4 (xoo _ _ _)).trans (Steps.grow h.2))
theorem Steps.keys:∀{l:List Oper} {F F':Fr} {p:List (Fr×Option (Adds×TV))},Keys F→Steps P all l F p F'→Keys F'
 | [],F,F',p,hk,⟨_,h⟩=>by subst h;exact hk
 | o::l,F,F',p,hk,⟨x,r,F1,b,_,hg,h⟩=>by
  obtain ⟨e1,e2,e3,e4,_⟩:=hg.same
  have g1:Keys F1:=xhQ hk e1 e2 e3
  split at h
  ·exact Steps.keys (xkK g1 h.2.2.1 _ _) h.2.2.2
  ·obtain ⟨k1,k2,k3,k4⟩:=xcV F1 o.dst .undef
   exact Steps.keys (xhQ g1 k1 k2 k3) h.2
theorem Steps.ref:∀{l:List Oper} {F F':Fr} {p:List (Fr×Option (Adds×TV))} {t:Nat},(∀o∈l,o.dst≠some t)→Steps P all l F p F'→xlC (lk F.tmps t) (lk F'.tmps t)
 | [],F,F',p,t,_,⟨_,h⟩=>by subst h;exact .refl _
 | o::l,F,F',p,t,hd,⟨x,r,F1,b,_,hg,h⟩=>by
  obtain ⟨_,_,_,_,e⟩:=hg.same
  have hd':=hd o (by simp)
  have hl:∀o∈l,o.dst≠some t:=fun o ho=>hd o (by simp [ho])
  split at h
  ·rename_i A tv
   have:=Steps.ref hl h.2.2.2
   rw [xev hd'] at this
   exact (e t).trans this
  ·have:=Steps.ref hl h.2
   rw [xev hd'] at this
   exact (e t).trans this
theorem Steps.high:∀{l:List Oper} {F F':Fr} {p:List (Fr×Option (Adds×TV))} {t:Nat},F.nt≤t→Steps P all l F p F'→xlC (lk F.tmps t) (lk F'.tmps t)
 | [],F,F',p,t,_,⟨_,h⟩=>by subst h;exact .refl _
 | o::l,F,F',p,t,hd,⟨x,r,F1,b,_,hg,h⟩=>by
  obtain ⟨_,_,_,e4,e⟩:=hg.same
  have hput:∀(F2:Fr) (v:TV),F2.nt≤t→lk (put F2 o.dst v).tmps t=lk F2.tmps t:=by
   intro F2 v h2
   cases hdst:o.dst with
   | none=>rfl
   | some d =>
    by_cases hdt:d=t
    ·subst hdt;simp [put,Nat.not_lt.2 h2]
    ·exact xev (by simpa using hdt)
  split at h
  ·rename_i A tv
   have:=Steps.high (t:=t) (by rw [(xcV _ _ _).2.2.2];show F1.nt≤t;omega) h.2.2.2
   rw [hput _ _ (by show F1.nt≤t;omega)] at this
   exact (e t).trans this
  ·have:=Steps.high (t:=t) (by rw [(xcV _ _ _).2.2.2];omega) h.2
   rw [hput _ _ (by omega)] at this
   exact (e t).trans this
theorem Steps.split:∀{l1:List Oper} {o:Oper} {l2:List Oper} {F F':Fr} {p:List (Fr×Option (Adds×TV))},Steps P all (l1++o::l2) F p F' →
 ∃p1 p2 F0 F1 x b,p=p1++(F1,x)::p2∧p1.length=l1.length∧Steps P all l1 F p1 F0∧xb2 all F0 o b F1∧(match x with
 | some (A,tv)=>b=true∧Yields P o F1 A tv∧AOK F1 A∧Steps P all l2 (put (F1.plus A) o.dst tv) p2 F'
 | none=>b=false∧Steps P all l2 (put F1 o.dst .undef) p2 F')
 | [],o,l2,F,F',p,⟨x,r,F1,b,h1,h2,h3⟩=>⟨[],r,F,F1,x,b,h1,rfl,⟨rfl,rfl⟩,h2,h3⟩
 | o'::l1,o,l2,F,F',p,⟨x,r,F1,b,h1,h2,h3⟩=>by
  split at h3
  ·rename_i A tv
   obtain ⟨p1,p2,F0,F1',x',b',k1,k2,k3,k4,k5⟩:=Steps.split (l1:=l1) h3.2.2.2
   exact ⟨_::p1,p2,F0,F1',x',b',by rw [h1,k1];rfl,by simp [k2],⟨some (A,tv),p1,F1,b,rfl,h2,h3.1,h3.2.1,h3.2.2.1,k3⟩,k4,k5⟩
  ·obtain ⟨p1,p2,F0,F1',x',b',k1,k2,k3,k4,k5⟩:=Steps.split (l1:=l1) h3.2
   exact ⟨_::p1,p2,F0,F1',x',b',by rw [h1,k1];rfl,by simp [k2],⟨none,p1,F1,b,rfl,h2,h3.1,k3⟩,k4,k5⟩
theorem Steps.len:∀{l:List Oper} {F F':Fr} {p:List (Fr×Option (Adds×TV))},Steps P all l F p F'→p.length=l.length
 | [],F,F',p,⟨h,_⟩=>by subst h;rfl
 | o::l,F,F',p,⟨x,r,F1,b,h1,_,h⟩=>by
  subst h1
  split at h
  ·simp [Steps.len h.2.2.2]
  ·simp [Steps.len h.2]
def takes (p:List (Fr×Option (Adds×TV))) (i id:Nat):Prop:=∃F1 A tv,p[i]? = some (F1,some (A,tv))∧F1.next≤id∧id<F1.next+A.n
theorem Steps.takes_in {l:List Oper} {F F':Fr} {p:List (Fr×Option (Adds×TV))} (h:Steps P all l F p F') {i id:Nat} (ht:takes p i id):F.next≤id∧id<F'.next:=by
 obtain ⟨F1,A,tv,e,h1,h2⟩:=ht
 have hi:i<l.length:=by
  rw [←h.len]
  rcases Nat.lt_or_ge i p.length with h' | h'
  ·exact h'
  ·simp [List.getElem?_eq_none h'] at e
 have el:l=l.take i++l[i]::l.drop (i+1):=by rw [←List.drop_eq_getElem_cons hi,List.take_append_drop]
 rw [el] at h
 obtain ⟨p1,p2,F0,F1',x,b,k1,k2,k3,k4,k5⟩:=Steps.split h
 have hl:p1.length=i:=by rw [k2,List.length_take];omega
 rw [k1,←hl,List.getElem?_append_right (Nat.le_refl _),Nat.sub_self] at e
 simp at e
 obtain ⟨rfl,rfl⟩:=e
 have g1:=k3.grow.next
 obtain ⟨_,_,e3,_,_⟩:=k4.same
 have g2:=k5.2.2.2.grow.next
 rw [(xcV _ _ _).2.2.1] at g2
 have g3:F1'.next+A.n≤F'.next:=g2
 omega
theorem Steps.takes_ne {l:List Oper} {F F':Fr} {p:List (Fr×Option (Adds×TV))} (h:Steps P all l F p F') {i j id:Nat} (ht:takes p i id) (hu:takes p j id):i=j:=by
 have key:∀{i j:Nat},i<j→takes p i id→takes p j id→False:=by
  intro i j hij ht hu
  obtain ⟨F1,A,tv,e,h1,h2⟩:=ht
  have hi:i<l.length:=by
   rw [←h.len]
   rcases Nat.lt_or_ge i p.length with h' | h'
   ·exact h'
   ·simp [List.getElem?_eq_none h'] at e
  have el:l=l.take i++l[i]::l.drop (i+1):=by rw [←List.drop_eq_getElem_cons hi,List.take_append_drop]
  rw [el] at h
  obtain ⟨p1,p2,F0,F1',x,b,k1,k2,k3,k4,k5⟩:=Steps.split h
  have hl:p1.length=i:=by rw [k2,List.length_take];omega
  rw [k1,←hl,List.getElem?_append_right (Nat.le_refl _),Nat.sub_self] at e
  simp at e
  obtain ⟨rfl,rfl⟩:=e
  have hu':takes p2 (j-i-1) id:=by
   obtain ⟨F2,A2,tv2,e',h1',h2'⟩:=hu
   refine ⟨F2,A2,tv2,?_,h1',h2'⟩
   rw [k1,List.getElem?_append_right (by omega),hl] at e'
   obtain ⟨m,hm⟩:∃m,j-i=m+1:=⟨j-i-1,by omega⟩
   rw [hm] at e'
   rw [show j-i-1=m by omega]
   simpa using e'
  have:=Steps.takes_in k5.2.2.2 hu'
  rw [(xcV _ _ _).2.2.1] at this
  have h3:F1'.next+A.n≤id:=this.1
  omega
 rcases Nat.lt_trichotomy i j with h' | h' | h'
 ·exact (key h' ht hu).elim
 ·exact h'
 ·exact (key h' hu ht).elim
end
end Go.Ev
/- Whatever order is drawn. -/
namespace Go.Ev
open Go.RowKit
section
variable {P : Program} {ops : Array Oper}
theorem xbY {i:Nat} {o:Oper} (h:ops[i]? = some o):i<ops.size:=by
 rcases Nat.lt_or_ge i ops.size with h' | h'
 ·exact h'
 ·simp [Array.getElem?_eq_none h'] at h
theorem xov {m:List Nat} (h:xow ops m=true) {i:Nat} {o:Oper} (hi:ops[i]? = some o):xqc ops m i o=true:=by
 have:=List.all_eq_true.1 h i (List.mem_range.2 (xbY hi))
 simpa [hi] using this
theorem xhI {m:List Nat} (h:xow ops m=true) {i:Nat} {o:Oper} (hi:ops[i]? = some o) {e:Edge} (he:e∈o.after) (hb:Region.binds .any e=true):e.on<i:=by
 have h1:=xov h hi
 simp only [xqc,Bool.and_eq_true] at h1
 have:=(Array.all_eq_true_iff_forall_mem.1 h1.1) e he
 simpa [hb] using this
theorem xmI {m:List Nat} (h:xow ops m=true) {i j:Nat} (hmi:i∉m) (hmj:j∉m) {o p:Oper} (hi:ops[i]? = some o) (hj:ops[j]? = some p) {d:Tmp} (hd:p.dst=some d) :
 (j=i∨o.dst≠some d)∧(d∈o.looksAt ops→j<i∧o.after.any (fun e=>Region.binds .any e&&e.on==j)=true):=by
 have h1:=xov h hi
 simp only [xqc,Bool.and_eq_true,Bool.or_eq_true] at h1
 rcases h1.2 with h2 | h2
 ·exact absurd (by simpa using h2) hmi
 ·have:=List.all_eq_true.1 h2 j (List.mem_range.2 (xbY hj))
  rw [Bool.or_eq_true] at this
  rcases this with h3 | h3
  ·exact absurd (by simpa using h3) hmj
  ·simp only [hj,hd,Bool.and_eq_true,Bool.or_eq_true,decide_eq_true_eq] at h3
   refine ⟨h3.1.imp id fun h=>by simpa using h,fun hl=>?_⟩
   rcases h3.2 with h4 | h4
   ·simp at h4;exact absurd hl h4
   ·exact h4
theorem xrO {m:List Nat} (h:xow ops m=true) {i j:Nat} (hmi:i∉m) (hmj:j∉m) {o p:Oper} (hi:ops[i]? = some o) (hj:ops[j]? = some p) {d:Tmp} (hd:p.dst=some d) (hne:j≠i):o.dst≠some d :=
 (xmI h hmi hmj hi hj hd).1.resolve_left hne
theorem xfN {m:List Nat} (h:xow ops m=true) {i j:Nat} (hmi:i∉m) (hmj:j∉m) {o p:Oper} (hi:ops[i]? = some o) (hj:ops[j]? = some p) {d:Tmp} (hd:p.dst=some d) (hl:d∈o.looksAt ops):j<i∧∃e∈o.after,Region.binds .any e=true∧e.on=j:=by
 have h2:=(xmI h hmi hmj hi hj hd).2 hl
 refine ⟨h2.1,?_⟩
 obtain ⟨n,hn,hb⟩:=Array.any_eq_true.1 h2.2
 simp only [Bool.and_eq_true,beq_iff_eq] at hb
 exact ⟨_,Array.getElem_mem hn,hb⟩
def Avail (es:List Oper) (listed:Array Bool) (t:Nat):Prop:=∀j o,es[j]? = some o→o.dst=some t→listed.getD j false=true
structure Mid (w0:Base) (F':Fr) (es:List Oper) (p:List (Fr×Option (Adds×TV))) (listed:Array Bool) (G:Gh) (a:Act) (w:World):Prop where
 rel:Rel w0 G { F' with tmps:=[] } a w
 free:∀id,(F'.next≤id∨∃i,listed.getD i true=false∧takes p i id)→xrs G id
 tmps:∀t tv,Avail es listed t→lk F'.tmps t=some tv→∃v,a.tmps[t]? = some v∧xcy G w tv v
theorem xeA {α:Type} (q:Nat→Bool):∀(l:List (Nat×α)) (t:Nat),lk (l.filter fun x=>q x.1) t=if q t=true then lk l t else none
 | [],t=>by simp [lk]
 | (k,v)::l,t=>by
  by_cases hq:q k=true
  ·rw [List.filter_cons_of_pos (by simpa using hq),xas,xas,xeA q l t]
   by_cases hk:k=t
   ·subst hk;simp [hq]
   ·simp [hk]
  ·rw [List.filter_cons_of_neg (by simpa using hq),xeA q l t,xas]
   by_cases hk:k=t
   ·subst hk;simp [hq]
   ·simp [hk]
def xna (es:List Oper) (listed:Array Bool) (t:Nat):Bool:=(List.range es.length).all fun j=>match es[j]? with | some o=>o.dst != some t||listed.getD j false | none=>true
theorem xju {es:List Oper} {listed:Array Bool} {t:Nat}:xna es listed t=true↔Avail es listed t:=by
 constructor
 ·intro h j o hj hd
  have hlt:j<es.length:=(List.getElem?_eq_some_iff.1 hj).1
  have:=List.all_eq_true.1 h j (List.mem_range.2 hlt)
  simpa [hj,hd] using this
 ·intro h
  refine List.all_eq_true.2 fun j _=>?_
  split
  ·rename_i o hj
   by_cases hd:o.dst=some t
   ·simp [h j o hj hd]
   ·simp [hd]
  ·rfl
theorem xfB:∀(l:List Edge) {j:Nat},(xjt l).testBit j=true→∃e∈l,Region.binds .any e=true∧e.on=j
 | [],j,h=>by simp [xjt] at h
 | e::l,j,h=>by
  unfold xjt at h
  split at h
  ·rename_i hb
   rw [Nat.testBit_or,Bool.or_eq_true] at h
   rcases h with h | h
   ·refine ⟨e,by simp,hb,?_⟩
    rw [Nat.shiftLeft_eq,Nat.one_mul,Nat.testBit_two_pow] at h
    simpa using h
   ·obtain ⟨e',h1,h2⟩:=xfB l h
    exact ⟨e',List.mem_cons_of_mem _ h1,h2⟩
  ·obtain ⟨e',h1,h2⟩:=xfB l h
   exact ⟨e',List.mem_cons_of_mem _ h1,h2⟩
def Down (ops:Array Oper) (listed:Array Bool):Prop:=∀j o,ops[j]? = some o→listed.getD j false=true→∀e∈o.after,Region.binds .any e=true→listed.getD e.on false=true
theorem xma {listed:Array Bool} {i:Nat} (h:∀o,ops[i]? = some o→∀e∈o.after,Region.binds .any e=true→listed.getD e.on false=true) {j:Nat} (hj:(dm ops i).testBit j=true):listed.getD j false=true:=by
 unfold dm at hj
 split at hj
 ·rename_i o ho
  obtain ⟨e,h1,h2,rfl⟩:=xfB _ hj
  exact h o ho e (by simpa using h1) h2
 ·simp at hj
theorem xf2 {listed:Array Bool} (hD:Down ops listed):∀(n S:Nat),(∀j,S.testBit j=true→listed.getD j false=true)→∀j,(clos ops n S).testBit j=true→listed.getD j false=true
 | 0,S,h,j,hj=>h j hj
 | n+1,S,h,j,hj=>by
  unfold clos at hj
  split at hj
  ·rename_i hn
   refine xf2 hD n _ (fun j hj=>?_) j hj
   rw [Nat.testBit_or,Bool.or_eq_true] at hj
   rcases hj with hj | hj
   ·exact h j hj
   ·exact xma (fun o ho=>hD n o ho (h n hn)) hj
  ·exact xf2 hD n _ h j hj
structure xwF (ops:Array Oper) (m fl:List Nat) (f:Nat) (o:Oper):Prop where
 ext:∃x n,o.op=.extract x n
 gd:o.guard=none
 apart:∀j oj,j∈m++fl→j≠f→ops[j]? = some oj→(oj.after.any fun e=>Region.binds .any e&&e.on==f)=true∨o.apart ops oj=true
structure xwE (T:Tab) (F:Fr) (ops:Array Oper) (m fl:List Nat) (odd f:Nat) (o:Oper):Prop where
 rd:rdB T F o=true
 apart:∀j oj,j∈m++fl→j≠f→(j∈m∨¬j<f∨j=odd)→ops[j]? = some oj→(clos ops j (dm ops j)).testBit f=true∨(o.apart ops oj=true∧(xgE T oj=true∨xda o=false))
theorem xjk {T:Tab} {F:Fr} {m fl:List Nat} {odd f:Nat} (h:xkX T F ops m fl odd f=true):∃o,ops[f]? = some o∧f∉m∧(∀e∈o.after,Region.binds .any e=true→e.on∉m)∧(xwF ops m fl f o∨xwE T F ops m fl odd f o):=by
 unfold xkX at h
 rw [Bool.and_eq_true] at h
 obtain ⟨h1,h2⟩:=h
 split at h2
 ·rename_i o ho
  rw [Bool.and_eq_true,Bool.or_eq_true] at h2
  obtain ⟨h4,h5⟩:=h2
  refine ⟨o,ho,by simpa using h1,fun e he hb=>?_,?_⟩
  ·have:=(Array.all_eq_true_iff_forall_mem.1 h4) e he
   simpa [hb] using this
  ·rcases h5 with h5 | h5
   ·rw [Bool.and_eq_true] at h5
    obtain ⟨h3,h5⟩:=h5
    refine .inl ⟨?_,?_,fun j oj hj hne ho'=>?_⟩
    ·unfold xql at h3
     rw [Bool.and_eq_true] at h3
     have h6:=h3.1
     split at h6
     ·rename_i x n hop;exact ⟨x,n,hop⟩
     ·cases h6
    ·unfold xql at h3
     rw [Bool.and_eq_true] at h3
     have h6:=h3.2
     split at h6
     ·assumption
     ·cases h6
    ·have:=List.all_eq_true.1 h5 j hj
     simp only [Bool.or_eq_true,beq_iff_eq,hne,false_or,ho'] at this
     exact this
   ·rw [Bool.and_eq_true] at h5
    refine .inr ⟨h5.1,fun j oj hj hne hjm ho'=>?_⟩
    have:=List.all_eq_true.1 h5.2 j hj
    simp only [Bool.or_eq_true,beq_iff_eq,hne,false_or,ho',Bool.and_eq_true,decide_eq_true_eq,Bool.not_eq_true'] at this
    rcases this with (h | h) | h
    ·rcases hjm with hm | hm | hm
     ·have h1:=h.1.1;simp at h1;exact absurd hm h1
     ·exact absurd h.1.2 hm
     ·have h1:=h.2;simp at h1;exact absurd hm h1
    ·exact .inl h
    ·exact .inr h
 ·cases h2
theorem xhO {T:Tab} {F:Fr} {m:List Nat} (h:xmQ T F ops m=true):∃fl,xlW ops m (ops.size::fl)=true∧(∀f∈fl,xkX T F ops m (ops.size::fl) ops.size f=true)∧(fl=[]∨Region.noSelect ops=true):=by
 unfold xmQ at h
 simp only [Bool.and_eq_true,Bool.or_eq_true,List.all_eq_true,List.isEmpty_iff] at h
 exact ⟨_,h.1.1,h.1.2,h.2⟩
def YI (P:Program) (ops:Array Oper) (o:Oper) (v:Value) (w1:World) (a:Act):Prop :=
 Region.wanted o (yielded ops a.tmps)=true∧∀w,(xda o=false∨xby w1 w)→(execOp a.eval o).run P w=.ok (.value v) w
theorem YI.of_same {o:Oper} {v:Value} {w1:World} {a a':Act} (hy:YI P ops o v w1 a) (he:execOp a'.eval o=execOp a.eval o)
 (hw:Region.wanted o (yielded ops a'.tmps)=Region.wanted o (yielded ops a.tmps)):YI P ops o v w1 a':=by
 unfold YI at *
 rw [he,hw]
 exact hy
theorem xn0 {T:Tab} (hT:xaz P T) {Q:Exit→Act→World→Prop} {j:Nat} {oi oj:Oper} {v:Value} {w1:World} (hj:ops[j]? = some oj) (hap:oi.apart ops oj=true) (hqt:xgE T oj=true)
 (hsi:∀cs b,oi.op≠.select cs b) (hsj:∀cs b,oj.op≠.select cs b)
 (hQ:∀c a w,Q (.panic c) (a.put oi.dst v) w→Q (.panic c) a w) {K:Act→World→Prop} {a:Act} {w:World}
 (hy:YI P ops oi v w1 a) (hi:xda oi=false∨xby w1 w) (h:wpOp P ops Q j K (a.put oi.dst v) w) :
 wpOp P ops Q j (fun a' w'=>(YI P ops oi v w1 a'∧(xda oi=false∨xby w1 w'))∧K (a'.put oi.dst v) w') a w:=by
 obtain ⟨h1,h2,h3⟩:=Oper.apart_spec hap
 have keep:∀(a:Act),YI P ops oi v w1 a→∀u,YI P ops oi v w1 (a.put oj.dst u):=fun a hy u =>
  hy.of_same (execOp_put oi hsi a oj.dst u h3) (wanted_put oi a oj.dst u h3)
 unfold wpOp at *
 simp only [hj] at *
 rw [wanted_put oj a oi.dst v h1] at h
 split
 ·rename_i hw
  simp only [hw,if_true] at h
  rcases h with h | ⟨hasks,hlets⟩
  case inr=>exact .inr ⟨by unfold Oper.asks at *;rw [execOp_put oj hsj a oi.dst v h1] at hasks;exact hasks,hlets⟩
  refine .inl ?_
  unfold Oper.wp at *
  rw [execOp_put oj hsj a oi.dst v h1] at h
  have hquiet:=fun r w'=>xom (P:=P) hT hqt a.eval (w:=w) (r:=r) (w':=w')
  generalize (execOp a.eval oj).run P w=r at *
  cases r with
  | ok n w' =>
   obtain ⟨⟨u,rfl⟩,hs⟩:=hquiet n w' rfl
   simp only [Oper.upon] at h ⊢
   exact ⟨⟨keep a hy u,hi.imp id fun h=>h.trans hs⟩,by rw [←Act.put_comm a v u h2];exact h⟩
  | halt x w' =>
   cases x<;>simp only [Oper.upon] at h ⊢
   case panic u=>exact hQ _ _ _ h
 ·rename_i hw
  simp only [hw] at h
  exact ⟨⟨keep a hy _,hi⟩,by rw [←Act.put_comm a v undef h2];exact h⟩
theorem xqh {p:Nat→Prop}:∀(n:Nat),p n→∃k,p k∧∀g,g<k→¬p g:=by
 intro n
 induction n using Nat.strongRecOn with
 | _ n ih =>
  intro h
  by_cases h2:∃g,g<n∧p g
  ·obtain ⟨g,h3,h4⟩:=h2;exact ih g h3 h4
  ·exact ⟨n,h,fun g hg hp=>h2 ⟨g,hg,hp⟩⟩
theorem xjb {m fl:List Nat} {listed:Array Bool} (hL:xlW ops m fl=true) (hD:Down ops listed) {i:Nat} (hi:i∈m) (hr:∀o,ops[i]? = some o→∀e∈o.after,Region.binds .any e=true→listed.getD e.on false=true)
 {j:Nat} (hj:j<ops.size) (hfl:j∉fl) (h:j∉m∨j<i):listed.getD j false=true:=by
 have:=List.all_eq_true.1 (List.all_eq_true.1 hL i hi) j (List.mem_range.2 hj)
 simp only [Bool.or_eq_true,Bool.and_eq_true,decide_eq_true_eq] at this
 rcases this with (h1 | ⟨h1,h2⟩) | h1
 rotate_left 2
 ·exact absurd (by simpa using h1) hfl
 ·exact xf2 hD _ _ (fun j hj=>xma hr hj) j h1
 ·rcases h with h | h
  ·exact absurd (by simpa using h1) h
  ·omega
theorem Down.set {listed:Array Bool} (hD:Down ops listed) {i:Nat} {oi:Oper} (ho:ops[i]? = some oi) (hr:∀e∈oi.after,Region.binds .any e=true→listed.getD e.on false=true):Down ops (listed.setIfInBounds i true):=by
 have up:∀j,listed.getD j false=true→(listed.setIfInBounds i true).getD j false=true:=by
  intro j h
  by_cases hji:i=j
  ·subst hji
   have hlt:i<listed.size:=by
    rcases Nat.lt_or_ge i listed.size with h' | h'
    ·exact h'
    ·simp [h'] at h
   simp [hlt]
  ·rw [getD_set_ne false hji];exact h
 intro j o hj hl e he hb
 by_cases hji:i=j
 ·subst hji;rw [ho] at hj;injection hj with hj;subst hj;exact up _ (hr e he hb)
 ·rw [getD_set_ne false hji] at hl;exact up _ (hD j o hj hl e he hb)
theorem xkj {T:Tab} (hT:xaz P T) {Q:Exit→Act→World→Prop} {i:Nat} {oi:Oper} {v:Value} {w1:World} (hgd:oi.guard=none) (hi:ops[i]? = some oi) (hsel:∀(j:Nat) (o:Oper) cs b,ops[j]? = some o→o.op≠.select cs b)
 (hQ:∀c a w,Q (.panic c) (a.put oi.dst v) w→Q (.panic c) a w) :
 ∀(fuel:Nat) (listed:Array Bool) (a:Act) (w:World),(xda oi=false∨xby w1 w)→Down ops listed →
  (∀j oj,ops[j]? = some oj→j≠i→listed.getD j true=false→(clos ops j (dm ops j)).testBit i=true∨(oi.apart ops oj=true∧(xgE T oj=true∨xda oi=false))) →
  i∈Region.ready .any ops listed→YI P ops oi v w1 a →
  wpAny P .any ops Q fuel (listed.setIfInBounds i true) (a.put oi.dst v) w→wpAny P .any ops Q (fuel+1) listed a w:=by
 have first:∀(K:Act→World→Prop) (a:Act) (w:World),(xda oi=false∨xby w1 w)→YI P ops oi v w1 a→K (a.put oi.dst v) w→wpOp P ops Q i K a w:=by
  intro K a w hs hy h
  unfold wpOp
  simp only [hi]
  simp only [hy.1,if_true,Oper.wp,hy.2 w hs,Oper.upon]
  exact .inl h
 intro fuel
 induction fuel with
 | zero =>
  intro listed a w hs hD _ hr hy H
  refine ⟨fun h=>(by rw [h] at hr;cases hr),fun j hj=>?_⟩
  by_cases hji:j=i
  ·subst hji;exact first _ a w hs hy H
  ·have:=ready_mono hj hji
   rw [H.1] at this
   cases this
 | succ fuel ih =>
  intro listed a w hs hD hfree hr hy H
  refine ⟨fun h=>(by rw [h] at hr;cases hr),fun j hj=>?_⟩
  by_cases hji:j=i
  ·subst hji;exact first _ a w hs hy H
  ·have h1:=H.2 j (ready_mono hj hji)
   obtain ⟨hjun,oj,hoj,hall⟩:=mem_ready.1 hj
   have hil:listed.getD i false=false:=by
    have h0:=(mem_ready.1 hr).1
    rcases Nat.lt_or_ge i listed.size with h' | h'
    ·simpa [h'] using h0
    ·simp [Array.getElem?_eq_none h']
   obtain ⟨hap,hqt⟩:oi.apart ops oj=true∧(xgE T oj=true∨xda oi=false):=by
    rcases hfree j oj hoj hji hjun with h | h
    ·have:=xf2 hD j _ (fun q hq=>xma (fun o ho e he hb=>by rw [hoj] at ho;injection ho with ho;subst ho;exact hall e he hb) hq) i h
     rw [hil] at this;cases this
    ·exact h
   have h2:wpOp P ops Q j (fun a' w'=>(YI P ops oi v w1 a'∧(xda oi=false∨xby w1 w'))∧wpAny P .any ops Q fuel ((listed.setIfInBounds i true).setIfInBounds j true) (a'.put oi.dst v) w') a w:=by
    rcases hqt with hqt | hnl
    ·exact xn0 hT hoj hap hqt (fun cs b=>hsel i oi cs b hi) (fun cs b=>hsel j oj cs b hoj) hQ hy hs h1
    ·refine wpOp_mono (fun a' w' h3=>⟨⟨?_,.inl hnl⟩,h3.2⟩) (wpOp_put hoj hap (fun cs b=>hsel i oi cs b hi) (fun cs b=>hsel j oj cs b hoj) hQ (.inl ⟨hy.1,fun w=>hy.2 w (.inl hnl)⟩) h1)
     have hwt:Region.wanted oi (yielded ops a'.tmps)=true:=by unfold Region.wanted;rw [hgd]
     rcases h3.1 with h4 | h4
     ·exact ⟨hwt,fun w _=>h4.2 w⟩
     ·rw [hwt] at h4;cases h4.1
   have hfree':∀k ok,ops[k]? = some ok→k≠i→(listed.setIfInBounds j true).getD k true=false →
    (clos ops k (dm ops k)).testBit i=true∨(oi.apart ops ok=true∧(xgE T ok=true∨xda oi=false)):=fun k ok hk hki hun=>by
    refine hfree k ok hk hki ?_
    by_cases hjk:j=k
    ·subst hjk;exact hjun
    ·rw [getD_set_ne true hjk] at hun;exact hun
   refine wpOp_mono (fun a' w' h3=>ih (listed.setIfInBounds j true) a' w' h3.1.2 (hD.set hoj hall) hfree' (ready_mono hr (Ne.symm hji)) h3.1.1 ?_) h2
   rw [Array.setIfInBounds_comm _ _ hji]
   exact h3.2
def count (ops:Array Oper) (listed:Array Bool):Nat:=((List.range ops.size).filter fun j=>!listed.getD j true).length
theorem xf0 {listed:Array Bool} {i:Nat} (hi:i<ops.size) (hu:listed.getD i true=false):count ops (listed.setIfInBounds i true)<count ops listed:=by
 have e:((List.range ops.size).filter fun j=>!(listed.setIfInBounds i true).getD j true)=((List.range ops.size).filter fun j=>!listed.getD j true).filter fun j=>j != i:=by
  rw [List.filter_filter]
  apply List.filter_congr
  intro j _
  by_cases hj:j=i
  ·subst hj
   have hlt:j<listed.size:=by
    rcases Nat.lt_or_ge j listed.size with h' | h'
    ·exact h'
    ·simp [h'] at hu
   simp [hlt]
  ·have:=getD_set_ne (listed:=listed) true (Ne.symm hj)
   rw [this]
   simp [hj]
 unfold count
 rw [e]
 rw [List.length_filter_lt_length_iff_exists]
 exact ⟨i,List.mem_filter.2 ⟨List.mem_range.2 hi,by simp [hu]⟩,by simp⟩
theorem xgw {listed:Array Bool} (h:count ops listed=0) {i:Nat} (hi:i<ops.size):listed.getD i true=true:=by
 unfold count at h
 have h1:=List.eq_nil_of_length_eq_zero h
 have:=List.filter_eq_nil_iff.1 h1 i (List.mem_range.2 hi)
 simpa using this
variable {w0 : Base} {F F' : Fr} {p : List (Fr × Option (Adds × TV))} {md : Region.Mode}
theorem xfu {listed:Array Bool} (hs:listed.size=ops.size) {i:Nat} (hi:i<ops.size) (a b:Bool):listed.getD i a=listed.getD i b:=by
 have:i<listed.size:=by omega
 simp [this]
theorem xeO {m:List Nat} (h:xow ops m=true) {listed:Array Bool} (hs:listed.size=ops.size) (hr:Region.ready .any ops listed=[]):∀i,i<ops.size→listed.getD i true=true:=by
 intro i
 induction i using Nat.strongRecOn with
 | _ i ih =>
  intro hi
  cases hl:listed.getD i true with
  | true=>rfl
  | false =>
   exfalso
   have hm:i∈Region.ready .any ops listed:=by
    rw [mem_ready]
    obtain ⟨o,ho⟩:∃o,ops[i]? = some o:=⟨ops[i],by simp [hi]⟩
    refine ⟨hl,o,ho,fun e he hb=>?_⟩
    have hlt:=xhI h ho he hb
    have:=ih e.on hlt (by omega)
    rw [xfu hs (by omega) false true];exact this
   rw [hr] at hm
   cases hm
theorem xpo {m:List Nat} (hB:xow ops m=true) {w0:Base} (hk:Keys F) (hst:Steps P ops.toList (early m 0 ops.toList) F p F') {fl:List Nat} (ei:Nat) (hL:xlW ops m (ei::fl)=true) {T:Tab} (hT:xaz P T) (hF:∀f∈fl,xkX T F' ops m (ei::fl) ei f=true∧∀o,ops[f]? = some o→∀x∈o.after,Region.binds .any x=true→x.on≠ei) (hsel:fl=[]∨Region.noSelect ops=true) {Q:Exit→Act→World→Prop} (hQp:∀c a a' w,Q (.panic c) a w→Q (.panic c) a' w)
 (hQ:∀(fuel:Nat) (listed:Array Bool) (G:Gh) (a:Act) (w:World),St w0 G F' a w→listed.size=ops.size→count ops listed≤fuel→Down ops listed→(∀j,j<ops.size→(listed.getD j true=true↔j∉m))→wpAny P .any ops Q fuel listed a w)
 (hQe:∀(fuel:Nat) (listed:Array Bool) (G:Gh) (a:Act) (w:World) (oe:Oper),ops[ei]? = some oe→St w0 G (forget oe.dst F') a w→listed.size=ops.size→count ops listed≤fuel+1→Down ops listed→(∀j,j<ops.size→(listed.getD j true=true↔(j∉m∧j≠ei)))→∀i∈m,i∈Region.ready .any ops listed→wpOp P ops Q i (wpAny P .any ops Q fuel (listed.setIfInBounds i true)) a w) (hnt:∀t,F.nt≤t→lk F.tmps t=none) :
 ∀(fuel:Nat) (listed:Array Bool) (G:Gh) (a:Act) (w:World),listed.size=ops.size→count ops listed≤fuel→Down ops listed→(∀j∈m,j<ops.size→listed.getD j true=false)→Mid w0 F' (early m 0 ops.toList) p listed G a w→wpAny P .any ops Q fuel listed a w:=by
 have hk':Keys F':=hst.keys hk
 have hg':=hst.grow
 obtain ⟨es,hes⟩:∃es,es=early m 0 ops.toList:=⟨_,rfl⟩
 rw [←hes] at hst ⊢
 have hget:∀j,es[j]? = ops[j]?.map fun o=>if m.contains j=true then Ev.idle else o:=by
  intro j;rw [hes,xk9,Array.getElem?_toList,Nat.zero_add]
 have hlen:es.length=ops.size:=by rw [hes,xia];simp
 have hof:∀{j:Nat} {q:Oper} {t:Nat},es[j]? = some q→q.dst=some t→ops[j]? = some q∧j∉m:=by
  intro j q t hj hd
  rw [hget j] at hj
  cases ho:ops[j]? with
  | none=>rw [ho] at hj;cases hj
  | some o =>
   rw [ho] at hj
   simp only [Option.map_some,Option.some.injEq] at hj
   split at hj
   ·subst hj;cases hd
   ·rename_i hc;subst hj;exact ⟨rfl,by simpa using hc⟩
 have done:∀(fuel:Nat) (listed:Array Bool) (G:Gh) (a:Act) (w:World),listed.size=ops.size→count ops listed≤fuel→Down ops listed→(∀j∈m,j<ops.size→listed.getD j true=false)→(∀i,i<ops.size→i∉m→listed.getD i true=true)→Mid w0 F' es p listed G a w→wpAny P .any ops Q fuel listed a w:=by
  intro fuel listed G a w hs hc hD hnl hall hM
  refine hQ fuel listed G a w ⟨?_,fun id h=>hM.free id (.inl h),hk'.row,hk'.box,hk'.dis⟩ hs hc hD (fun j hj=>⟨(fun h hm=>Bool.false_ne_true ((hnl j hm hj).symm.trans h)),hall j hj⟩)
  have hR:=hM.rel
  exact ⟨hR.below,hR.defers,hR.size,fun t tv e=>hM.tmps t tv (fun j o hj hd=>by
   obtain ⟨h1,h2⟩:=hof hj hd
   rw [xfu hs (xbY h1) false true];exact hall j (xbY h1) h2) e,hR.boxes,hR.rows,hR.stb,hR.own,hR.rowv,hR.sub,hR.wr,hR.out⟩
 intro fuel
 induction fuel with
 | zero =>
  intro listed G a w hs hc hD hnl hM
  exact done 0 listed G a w hs hc hD hnl (fun i hi _=>xgw (by omega) hi) hM
 | succ fuel ih =>
  intro listed G a w hs hc hD hnl hM
  by_cases hall0:∀i,i<ops.size→i∉m→listed.getD i true=true
  ·exact done _ listed G a w hs hc hD hnl hall0 hM
  have step:∀(i:Nat) (o:Oper),listed.getD i true=false→ops[i]? = some o→(∀e∈o.after,Region.binds .any e=true→listed.getD e.on false=true)→i∉m →
   (if Region.wanted o (yielded ops a.tmps)=true then o.wp P a w (wpAny P .any ops Q fuel (listed.setIfInBounds i true)) Q else wpAny P .any ops Q fuel (listed.setIfInBounds i true) (a.put o.dst undef) w):=by
   intro i o hu ho haft him
   have hD2:=hD.set ho haft
   have hnl2:∀j∈m,j<ops.size→(listed.setIfInBounds i true).getD j true=false:=by
    intro j hj hlt
    have hji:i≠j:=fun h=>him (h▸hj)
    rw [getD_set_ne true hji];exact hnl j hj hlt
   have hilt:=xbY ho
   have hR:=hM.rel
   have hil:i<es.length:=by rw [hlen];exact hilt
   have hoi:es[i]=o:=by
    have:=hget i
    rw [ho,List.getElem?_eq_getElem hil,Option.map_some,if_neg (by simpa using him)] at this
    injection this
   have el:es=es.take i++o::es.drop (i+1):=by rw [←hoi,←List.drop_eq_getElem_cons hil,List.take_append_drop]
   have hst':=hst
   rw [el] at hst'
   obtain ⟨p1,p2,F0,F1,x,b,k1,k2,k3,k4,k5⟩:=Steps.split hst'
   have hpl:p1.length=i:=by rw [k2,List.length_take];omega
   have hpi:p[i]? = some (F1,x):=by rw [k1,←hpl,List.getElem?_append_right (Nat.le_refl _),Nat.sub_self];rfl
   obtain ⟨s1,s2,s3,s4,s5⟩:=k4.same
   have hk0:Keys F0:=k3.keys hk
   have hk1:Keys F1:=xhQ hk0 s1 s2 s3
   have g0:=k3.grow
   have hnt1:F1.nt=F'.nt:=by rw [s4,g0.nt,hg'.nt]
   have hlook:∀t,t∈o.looksAt ops→Avail es listed t∧o.dst≠some t∧∀q∈es.drop (i+1),q.dst≠some t:=by
    intro t ht
    refine ⟨fun j q hj hd=>?_,fun hd=>?_,fun q hq hd=>?_⟩
    ·obtain ⟨hlt,e,he,hb,hon⟩:=xfN hB him (hof hj hd).2 ho (hof hj hd).1 hd ht
     have:=haft e he hb
     rw [hon] at this;exact this
    ·have:=(xfN hB him him ho ho hd ht).1;omega
    ·obtain ⟨m,hm⟩:=List.mem_iff_getElem?.1 hq
     rw [List.getElem?_drop] at hm
     have:=(xfN hB him (hof hm hd).2 ho (hof hm hd).1 hd ht).1;omega
   have hlater:∀d,o.dst=some d→∀q∈es.drop (i+1),q.dst≠some d:=by
    intro d hd q hq hq2
    obtain ⟨m,hm⟩:=List.mem_iff_getElem?.1 hq
    rw [List.getElem?_drop] at hm
    exact xrO hB (hof hm hq2).2 him (hof hm hq2).1 ho hd (by omega) hq2
   have href:∀t,t∈o.looksAt ops→xlC (lk F1.tmps t) (lk F'.tmps t):=by
    intro t ht
    obtain ⟨_,h2,h3⟩:=hlook t ht
    split at k5
    ·have:=Steps.ref h3 k5.2.2.2
     rwa [xev h2] at this
    ·have:=Steps.ref h3 k5.2
     rwa [xev h2] at this
   have hwant:Region.wanted o (yielded ops a.tmps)=b:=by
    unfold xb2 at k4
    unfold Region.wanted
    split at k4
    ·rename_i hg;rw [hg];exact k4.1.symm
    ·rename_i j want hg
     rw [hg]
     obtain ⟨oj,d,h1,h2,h34⟩:=k4
     have hoj:ops[j]? = some oj:=by rw [←Array.getElem?_toList];exact h1
     have hin:d∈o.looksAt ops:=by
      unfold Oper.looksAt
      rw [hg]
      simp [hoj,h2]
     rcases h34 with ⟨t,h3,h4⟩ | ⟨h3,rfl,rfl⟩
     rotate_left
     ·obtain ⟨tv',h5,h6⟩:=(href d hin).fwd h3
      obtain ⟨v,h7,h8⟩:=hM.tmps d tv' (hlook d hin).1 h5
      have h9:xcy G w .undef v:=h6.iff.2 h8
      have:yielded ops a.tmps j=none:=by
       unfold yielded
       simp only [hoj,h2,Option.bind_some,h7]
       cases v<;>first | rfl | exact absurd rfl (h9 _)
      show (yielded ops a.tmps j==some want)=false
      rw [this];rfl
     have hF1:lk F1.tmps d=some (.one (.kb t)):=by
      rcases h3 with ⟨h3,rfl⟩ | ⟨h3,rfl⟩
      ·exact h3
      ·show (if d=d then _ else _)=_
       rw [if_pos rfl]
     obtain ⟨tv',h5,h6⟩:=(href d hin).fwd hF1
     obtain ⟨v,h7,h8⟩:=hM.tmps d tv' (hlook d hin).1 h5
     have h9:xcy G w (.one (.kb t)) v:=h6.iff.2 h8
     have h10:v=.bool t:=h9
     subst h10
     have:yielded ops a.tmps j=some t:=by simp [yielded,hoj,h2,h7]
     show (yielded ops a.tmps j==some want)=b
     rw [this,h4]
     cases t<;>cases want<;>rfl
   rw [hwant]
   have hs2:(listed.setIfInBounds i true).size=ops.size:=by simpa using hs
   have hc2:count ops (listed.setIfInBounds i true)≤fuel:=by have:=xf0 (ops:=ops) hilt hu;omega
   have havail:∀t,Avail es (listed.setIfInBounds i true) t→o.dst≠some t→Avail es listed t:=by
    intro t h hne j q hj hd
    have:=h j q hj hd
    by_cases hji:i=j
    ·subst hji;have hj:=(hof hj hd).1;rw [ho] at hj;injection hj with hj;subst hj;exact absurd hd hne
    ·rwa [getD_set_ne false hji] at this
   have hunl:∀j,(listed.setIfInBounds i true).getD j true=false→j≠i∧listed.getD j true=false:=by
    intro j hj
    by_cases hji:i=j
    ·subst hji
     have hlt:i<listed.size:=by omega
     simp [hlt] at hj
    ·rw [getD_set_ne true hji] at hj;exact ⟨fun h=>hji h.symm,hj⟩
   cases x with
   | none =>
    obtain ⟨rfl,k6⟩:=k5
    rw [if_neg (by simp)]
    refine ih _ G _ w hs2 hc2 hD2 hnl2 ⟨?_,fun id h=>hM.free id (h.imp (fun h=>h) fun ⟨j,h1,h2⟩=>⟨j,(hunl j h1).2,h2⟩),fun t tv ha e=>?_⟩
    ·refine ⟨hR.below,by cases o.dst<;>exact hR.defers,?_,fun t tv h=>(nomatch h),hR.boxes,hR.rows,hR.stb,hR.own,hR.rowv,hR.sub,hR.wr,hR.out⟩
     have:=hR.size
     cases o.dst<;>simpa [Act.put] using this
    ·by_cases hd:o.dst=some t
     ·by_cases hlt:t<F1.nt
      ·have h1:=Steps.ref (hlater t hd) k6
       rw [hd,xky hlt] at h1
       obtain ⟨tv',h2,h3⟩:=h1.fwd rfl
       rw [e] at h2
       injection h2 with h2
       subst h2
       have h4:tv=.undef:=by rcases h3 with h3 | ⟨_,h3,_⟩;exact h3;cases h3
       subst h4
       have hsz:t<a.tmps.size:=by have:=hR.size;simp at this;omega
       exact ⟨undef,by simp [Act.put,hd,hsz],fun b hb=>by cases hb⟩
      ·exfalso
       have h1:=hst.high (t:=t) (by rw [←g0.nt,←s4];omega)
       rw [hnt t (by rw [←g0.nt,←s4];omega)] at h1
       rw [e] at h1
       exact h1
     ·obtain ⟨v,h1,h2⟩:=hM.tmps t tv (havail t ha hd) e
      refine ⟨v,?_,h2⟩
      cases hdst:o.dst with
      | none=>exact h1
      | some d =>
       have:d≠t:=fun h=>hd (by rw [hdst,h])
       simpa [Act.put,Array.getElem?_setIfInBounds_ne this] using h1
   | some y =>
    obtain ⟨A,tv0⟩:=y
    obtain ⟨rfl,hY,hA,k6⟩:=k5
    rw [if_pos rfl]
    have hgr:Grow (put (F1.plus A) o.dst tv0) F':=k6.grow
    obtain ⟨r1,r2,r3,r4⟩:=xcV (F1.plus A) o.dst tv0
    have hnx:F1.next+A.n≤F'.next:=by have:=hgr.next;rw [r3] at this;exact this
    have hrow1:∀id r,lk F1.rows id=some r→lk F'.rows id=some r:=by
     intro id r h
     have hlt:=hk1.row id r h
     rw [hgr.row id (by rw [r3];show id<F1.next+A.n;omega),r1]
     show lk (A.rows++F1.rows) id=_
     rw [xbB]
     cases hh:lk A.rows id with
     | none=>exact h
     | some r'=>have:=(hA.row id r' hh).1;omega
    have hbox1:∀id r,lk F1.boxes id=some r→lk F'.boxes id=some r:=by
     intro id r h
     have hlt:=hk1.box id r h
     rw [hgr.box id (by rw [r3];show id<F1.next+A.n;omega),r2]
     show lk (A.boxes++F1.boxes) id=_
     rw [xbB]
     cases hh:lk A.boxes id with
     | none=>exact h
     | some r'=>have:=(hA.box id r' hh).1;omega
    have hrowA:∀id r,lk A.rows id=some r→lk F'.rows id=some r:=by
     intro id r h
     have hlt:=hA.row id r h
     rw [hgr.row id (by rw [r3];exact hlt.2),r1]
     show lk (A.rows++F1.rows) id=_
     rw [xbB,h]
    have hboxA:∀id r,lk A.boxes id=some r→lk F'.boxes id=some r:=by
     intro id r h
     have hlt:=hA.box id r h
     rw [hgr.box id (by rw [r3];exact hlt.2),r2]
     show lk (A.boxes++F1.boxes) id=_
     rw [xbB,h]
    let F2:Fr:={ F' with tmps:=(F1.tmps.filter fun x=>(o.looksAt ops).contains x.1)++F'.tmps.filter fun x=>xna es listed x.1 }
    have hlk:∀t,lk F2.tmps t=match (if (o.looksAt ops).contains t=true then lk F1.tmps t else none) with | some v=>some v | none=>if xna es listed t=true then lk F'.tmps t else none:=by
     intro t
     show lk (_++_) t=_
     rw [xbB,xeA (fun x=>(o.looksAt ops).contains x),xeA (fun x=>xna es listed x)]
     by_cases h1:(o.looksAt ops).contains t=true
     ·simp only [h1,if_true]
      cases lk F1.tmps t<;>rfl
     ·simp only [h1]
      rfl
    have hR2:Rel w0 G F2 a w:=by
     refine ⟨hR.below,hR.defers,hR.size,fun t tv e=>?_,hR.boxes,hR.rows,hR.stb,hR.own,hR.rowv,hR.sub,hR.wr,hR.out⟩
     rw [hlk t] at e
     split at e
     ·rename_i v hv
      injection e with e
      subst e
      split at hv
      ·rename_i hin
       have hin':t∈o.looksAt ops:=by simpa using hin
       obtain ⟨tv',h1,h2⟩:=(href t hin').fwd hv
       obtain ⟨u,h3,h4⟩:=hM.tmps t tv' (hlook t hin').1 h1
       exact ⟨u,h3,h2.iff.2 h4⟩
      ·cases hv
     ·split at e
      ·rename_i hav;exact hM.tmps t tv (xju.1 hav) e
      ·cases e
    have hLe:Le (looks o) F1 F2:=by
     refine ⟨fun t v hx h=>?_,hbox1,hrow1⟩
     have hin:t∈o.looksAt ops:=List.mem_append_left _ (List.mem_filterMap.2 ⟨.tmp t,hx,rfl⟩)
     rw [hlk t,if_pos (by simpa using hin),h]
    have hFr:Free G F1.next (F1.next+A.n):=fun id h1 h2=>hM.free id (.inr ⟨i,hu,F1,A,tv0,hpi,h1,h2⟩)
    refine hY w0 G F2 a w _ _ hLe hR2 hFr fun G' v w' hR' hv hAp=>?_
    refine ih _ G' _ w' hs2 hc2 hD2 hnl2 ⟨?_,fun id h=>?_,fun t tv ha e=>?_⟩
    ·refine ⟨hR'.below,by cases o.dst<;>exact hR'.defers,?_,fun t tv h=>(nomatch h),fun k cells b e1 e2=>?_,fun id r u e1 e2=>?_,hR'.stb,hR'.own,hR'.rowv,hR'.sub,hR'.wr,hR'.out⟩
     ·have h9:a.tmps.size=F'.nt:=hR'.size
      cases o.dst<;>simpa [Act.put] using h9
     ·refine hR'.boxes k cells b ?_ e2
      show lk (A.boxes++F'.boxes) k=_
      rw [xbB]
      cases hh:lk A.boxes k with
      | none=>exact e1
      | some r'=>exact (hboxA k r' hh).symm.trans e1
     ·refine hR'.rows id r u ?_ e2
      show lk (A.rows++F'.rows) id=_
      rw [xbB]
      cases hh:lk A.rows id with
      | none=>exact e1
      | some r'=>exact (hrowA id r' hh).symm.trans e1
    ·have hout:id<F1.next∨F1.next+A.n≤id:=by
      rcases h with h | ⟨j,h1,h2⟩
      ·right;omega
      ·rcases Nat.lt_or_ge id F1.next with h' | h'
       ·exact .inl h'
       ·rcases Nat.lt_or_ge id (F1.next+A.n) with h'' | h''
        ·exact absurd (hst.takes_ne h2 ⟨F1,A,tv0,hpi,h',h''⟩) (hunl j h1).1
        ·exact .inr h''
     have hf:=hM.free id (h.imp (fun h=>h) fun ⟨j,h1,h2⟩=>⟨j,(hunl j h1).2,h2⟩)
     exact ⟨(hAp.row id hout).trans hf.1,(hAp.bx id hout).trans hf.2.1,fun x hx=>hf.2.2 x ((hAp.own id x hout).1 hx)⟩
    ·by_cases hd:o.dst=some t
     ·by_cases hlt:t<F1.nt
      ·have h1:=Steps.ref (hlater t hd) k6
       rw [hd,xky (by exact hlt)] at h1
       obtain ⟨tv',h2,h3⟩:=h1.fwd rfl
       rw [e] at h2
       injection h2 with h2
       subst h2
       have hsz:t<a.tmps.size:=by have:=hR.size;simp at this;omega
       exact ⟨v,by simp [Act.put,hd,hsz],h3.iff.1 hv⟩
      ·exfalso
       have h1:=hst.high (t:=t) (by rw [←g0.nt,←s4];omega)
       rw [hnt t (by rw [←g0.nt,←s4];omega)] at h1
       rw [e] at h1
       exact h1
     ·have hav:=havail t ha hd
      have hkeep:∀u,a.tmps[t]? = some u→(a.put o.dst v).tmps[t]? = some u:=by
       intro u h1
       cases hdst:o.dst with
       | none=>exact h1
       | some d =>
        have:d≠t:=fun h=>hd (by rw [hdst,h])
        simpa [Act.put,Array.getElem?_setIfInBounds_ne this] using h1
      have hfact:∀tv1,lk F2.tmps t=some tv1→Ref tv1 tv→∃v_1,(a.put o.dst v).tmps[t]? = some v_1∧xcy G' w' tv v_1:=by
       intro tv1 h1 h2
       obtain ⟨u,h3,h4⟩:=hR'.tmps t tv1 h1
       exact ⟨u,hkeep u h3,h2.iff.1 h4⟩
      by_cases hin:(o.looksAt ops).contains t=true
      ·obtain ⟨tv1,h1,h2⟩:=(href t (by simpa using hin)).bwd e
       exact hfact tv1 (by rw [hlk t,if_pos hin,h1]) h2
      ·exact hfact tv (by rw [hlk t,if_neg hin,if_pos (xju.2 hav)];exact e) .rfl'
  by_cases hall:∀i,i<ops.size→i∉m→i≠ei→listed.getD i true=true
  ·-- all but the odd one
   have heu:ei<ops.size∧listed.getD ei true=false:=by
    refine Classical.byContradiction fun hno=>hall0 fun i hi him=>?_
    by_cases hie:i=ei
    ·subst hie
     cases hh:listed.getD i true with
     | true=>rfl
     | false=>exact absurd ⟨hi,hh⟩ hno
    ·exact hall i hi him hie
   refine ⟨fun hr=>absurd (xeO hB hs hr ei heu.1) (by rw [heu.2];simp),fun i hi=>?_⟩
   have hi0:=hi
   rw [mem_ready] at hi
   obtain ⟨hu,o,ho,haft⟩:=hi
   by_cases him:i∈m
   ·obtain ⟨oe,hoe⟩:∃oe,ops[ei]? = some oe:=⟨ops[ei],by simp [heu.1]⟩
    refine hQe fuel listed G a w oe hoe ⟨?_,fun id h=>hM.free id (.inl h),hk'.row,hk'.box,hk'.dis⟩ hs hc hD (fun j hj=>⟨fun h=>⟨fun hm=>Bool.false_ne_true ((hnl j hm hj).symm.trans h),fun he=>by subst he;rw [heu.2] at h;cases h⟩,fun h=>hall j hj h.1 h.2⟩) i him hi0
    have hR:=hM.rel
    refine ⟨hR.below,hR.defers,hR.size,fun t tv e=>?_,hR.boxes,hR.rows,hR.stb,hR.own,hR.rowv,hR.sub,hR.wr,hR.out⟩
    have e':lk (F'.tmps.filter fun x=>(fun t=>oe.dst != some t) x.1) t=some tv:=e
    rw [xeA (fun t=>oe.dst != some t)] at e'
    split at e'
    ·rename_i hne
     refine hM.tmps t tv (fun j q hj hd=>?_) e'
     obtain ⟨h1,h2⟩:=hof hj hd
     have hje:j≠ei:=fun he=>by
      subst he
      rw [hoe] at h1
      injection h1 with h1
      subst h1
      rw [hd] at hne
      simp at hne
     rw [xfu hs (xbY h1) false true];exact hall j (xbY h1) h2 hje
    ·cases e'
   ·have hst:=step i o hu ho haft him
    unfold wpOp
    rw [ho]
    simp only
    split
    ·rename_i hwt;rw [if_pos hwt] at hst;exact .inl hst
    ·rename_i hwt;rw [if_neg hwt] at hst;exact hst
  by_cases hlr:∃i o,listed.getD i true=false∧ops[i]? = some o∧(∀e∈o.after,Region.binds .any e=true→listed.getD e.on false=true)∧i∈m
  ·obtain ⟨i,o,hu,ho,haft,him⟩:=hlr
   have hw:∀j,j<ops.size→j∉m→j∉ei::fl→listed.getD j true=true:=fun j hj hjm hjf=>by
    rw [xfu hs hj true false]
    exact xjb hL hD him (fun o' ho' e he hb=>by rw [ho] at ho';injection ho' with ho';subst ho';exact haft e he hb) hj hjf (.inl hjm)
   have hex:∃f,f<ops.size∧(f∉m∧f≠ei)∧listed.getD f true=false:=by
    refine Classical.byContradiction fun hno=>hall fun j hj hjm hje=>?_
    cases hh:listed.getD j true with
    | true=>rfl
    | false=>exact absurd ⟨j,hj,⟨hjm,hje⟩,hh⟩ hno
   obtain ⟨f0,hf0⟩:=hex
   obtain ⟨f,⟨hf1,⟨hf2,hfe⟩,hf3⟩,hmin⟩:=xqh (p:=fun f=>f<ops.size∧(f∉m∧f≠ei)∧listed.getD f true=false) f0 hf0
   have hffl:f∈fl:=Classical.byContradiction fun hno=>by rw [hw f hf1 hf2 (by simp only [List.mem_cons,not_or];exact ⟨hfe,hno⟩)] at hf3;cases hf3
   obtain ⟨of,hof',hnm0,hdep,hcase⟩:=xjk (hF f hffl).1
   have hdepe:=(hF f hffl).2 of hof'
   have haftf:∀e∈of.after,Region.binds .any e=true→listed.getD e.on false=true:=fun e he hb=>by
    have hlt:=xhI hB hof' he hb
    have hnm:=hdep e he hb
    rw [xfu hs (by omega) false true]
    cases hh:listed.getD e.on true with
    | true=>rfl
    | false=>exact absurd ⟨by omega,⟨hnm,hdepe e he hb⟩,hh⟩ (hmin e.on hlt)
   have hns:Region.noSelect ops=true:=by
    rcases hsel with h | h
    ·rw [h] at hffl;cases hffl
    ·exact h
   have hmemu:∀j,j<ops.size→listed.getD j true=false→j∈m++(ei::fl):=fun j hj hh=>by
    by_cases h1:j∈m
    ·exact List.mem_append_left _ h1
    ·refine List.mem_append_right _ (Classical.byContradiction fun h2=>?_)
     rw [hw j hj h1 h2] at hh;cases hh
   rcases hcase with hok | hok
   rotate_left
   ·have hrd:=hok.rd
    unfold rdB at hrd
    rw [Bool.and_eq_true] at hrd
    have hgd:of.guard=none:=by
     have h6:=hrd.1
     split at h6
     ·assumption
     ·cases h6
    have hwt:Region.wanted of (yielded ops a.tmps)=true:=by unfold Region.wanted;rw [hgd]
    have hst:=step f of hf3 hof' haftf hf2
    rw [if_pos hwt] at hst
    have hv:∃v,(∀w2,(xda of=false∨xby w w2)→(execOp a.eval of).run P w2=.ok (.value v) w2)∧wpAny P .any ops Q fuel (listed.setIfInBounds f true) (a.put of.dst v) w:=by
     have fin:∀v,(∀w2,(xda of=false∨xby w w2)→(execOp a.eval of).run P w2=.ok (.value v) w2)→∃v,(∀w2,(xda of=false∨xby w w2)→(execOp a.eval of).run P w2=.ok (.value v) w2)∧wpAny P .any ops Q fuel (listed.setIfInBounds f true) (a.put of.dst v) w:=fun v hv=>by
      refine ⟨v,hv,?_⟩
      unfold Oper.wp at hst
      rw [hv w (.inr (.refl _))] at hst
      exact hst
     have hcs:=hrd.2
     split at hcs
     ·rename_i s x i hop
      obtain ⟨off,hf⟩:=xoZ hT hcs
      by_cases hx:∃ad,a.eval x=.pointer (some ad)
      ·obtain ⟨ad,hx⟩:=hx
       exact fin (.pointer (some (ad.add off))) fun w2 _=>by simp [execOp,hop,hf,hx]
      ·exfalso
       unfold Oper.wp at hst
       have hr : (execOp a.eval of).run P w = .halt (.stuck "an address expected (no nilCheck in front?)") w := by
        simp only [execOp,hop,Sem.run_bind,hf]
        split
        ·rename_i ad hq;exact absurd ⟨ad,hq⟩ hx
        ·rfl
       rw [hr] at hst
       exact hst.elim
     ·rename_i x hop
      exact fin (a.eval x) fun w2 _=>by simp [execOp,hop]
     ·rename_i n hop
      split at hcs
      ·rename_i b off hn
       have hav:Avail es listed n:=fun j q hj hd=>by
        obtain ⟨hlt,e,he,hb,hon⟩:=xfN hB hf2 (hof hj hd).2 hof' (hof hj hd).1 hd (by simp [Oper.looksAt,hop,Op.operands])
        have:=haftf e he hb
        rw [hon] at this;exact this
       obtain ⟨pv,m1,g,m2,m3⟩:=hM.tmps n _ hav hn
       subst m3
       have hev:a.eval (.tmp n)=.pointer (some ⟨g,off,none⟩):=by simp [Act.eval,Array.getD_eq_getD_getElem?,m1]
       exact fin (.pointer (some ⟨g,off,none⟩)) fun w2 _=>by simp [execOp,hop,hev]
      ·cases hcs
     ·rename_i t n hop
      split at hcs
      ·rename_i b off i hn hi
       split at hcs
       ·rename_i cs hb
        have hav:Avail es listed n:=fun j q hj hd=>by
         obtain ⟨hlt,e,he,hb,hon⟩:=xfN hB hf2 (hof hj hd).2 hof' (hof hj hd).1 hd (by simp [Oper.looksAt,hop,Op.operands])
         have:=haftf e he hb
         rw [hon] at this;exact this
        obtain ⟨pv,m1,g,m2,m3⟩:=hM.tmps n _ hav hn
        obtain ⟨_,vs,e,hh,hc⟩:=hM.rel.boxes b cs g hb m2
        subst m3
        have hev:a.eval (.tmp n)=.pointer (some ⟨g,off,none⟩):=by simp [Act.eval,Array.getD_eq_getD_getElem?,m1]
        have hlt:g<w.heap.size:=by
         rcases Nat.lt_or_ge g w.heap.size with h' | h'
         ·exact h'
         ·rw [Array.getElem?_eq_none h'] at hh;cases hh
        have hh2:∀w2,xby w w2→w2.heap[g]? = some (.cells vs.toArray e (0,0)):=fun w2 h2=>(h2.2 g hlt).trans hh
        have cell:∀w2,xby w w2→∀j u,vs[j]? = some u→w2.cell? ⟨g,j,none⟩=some u:=fun w2 h2 j u hu=>by rw [cell_of_row w2 g j _ e (0,0) (hh2 w2 h2)];simpa using hu
        have hlen:=hc.len
        by_cases hag:i.agg=true
        ·rw [if_pos hag] at hcs
         have hle:=of_decide_eq_true hcs
         refine fin (.agg ((vs.drop off).take i.size).toArray) fun w2 h2=>?_
         have h2:xby w w2:=h2.resolve_left (by simp [xda,hop])
         have:=xb8 (hT.ty t i hi) hag w2 g off ((vs.drop off).take i.size) (by rw [List.length_take,List.length_drop];omega) (fun j u hu=>cell w2 h2 _ _ (by
          rw [List.getElem?_take] at hu
          split at hu
          ·rwa [List.getElem?_drop] at hu
          ·cases hu))
         simp [execOp,hop,Instr.loadAt,Instr.sureAddr,hev,this]
        ·rw [if_neg hag] at hcs
         have hle:=of_decide_eq_true hcs
         have hu:vs[off]? = some vs[off]:=List.getElem?_eq_getElem (by omega)
         refine fin vs[off] fun w2 h2=>?_
         have h2:xby w w2:=h2.resolve_left (by simp [xda,hop])
         have:=xb7 (hT.ty t i hi) (by simpa using hag) w2 g off vs[off] (cell w2 h2 _ _ hu)
         simp [execOp,hop,Instr.loadAt,Instr.sureAddr,hev,this]
       ·cases hcs
      ·cases hcs
     ·cases hcs
    obtain ⟨v,hv1,hv2⟩:=hv
    refine xkj hT hgd hof' (Region.noSelect_spec hns) (fun c a' w' h=>hQp c _ _ w' h) fuel listed a w (.inr (.refl w)) hD (fun j oj hoj hne hun=>?_) ?_ ⟨hwt,hv1⟩ hv2
    ·refine hok.apart j oj (hmemu j (xbY hoj) hun) hne ?_ hoj
     by_cases hjm:j∈m
     ·exact .inl hjm
     ·by_cases hje:j=ei
      ·exact .inr (.inr hje)
      ·exact .inr (.inl fun hlt=>hmin j hlt ⟨xbY hoj,⟨hjm,hje⟩,hun⟩)
    ·rw [mem_ready]
     exact ⟨hf3,of,hof',haftf⟩
   have hst:=step f of hf3 hof' haftf hf2
   have hwt:Region.wanted of (yielded ops a.tmps)=true:=by unfold Region.wanted;rw [hok.gd]
   rw [if_pos hwt] at hst
   obtain ⟨x,n,hop⟩:=hok.ext
   have hv:∃v,(∀w,(execOp a.eval of).run P w=.ok (.value v) w)∧wpAny P .any ops Q fuel (listed.setIfInBounds f true) (a.put of.dst v) w:=by
    unfold Oper.wp at hst
    have hrun : ∀ w', (execOp a.eval of).run P w' = (match a.eval x with | .tuple vs => (match vs[n]? with | some v => .ok (.value v) w' | none => .halt (.stuck "Extract: no such component") w') | _ => .halt (.stuck "Extract: tuple expected") w' : Result Next) := by
     intro w'
     simp only [execOp,hop,Instr.extract]
     generalize a.eval x=ev
     cases ev with
     | tuple vs=>simp only [];generalize vs[n]? = q;cases q<;>rfl
     | _=>rfl
    rw [hrun] at hst
    split at hst
    ·rename_i vs hvs
     split at hst
     ·rename_i v hv
      exact ⟨v,fun w'=>by rw [hrun,hvs];simp only [hv],hst⟩
     ·exact hst.elim
    ·exact hst.elim
   obtain ⟨v,hv1,hv2⟩:=hv
   refine wpAny_take hof' hns ?_ ?_ (fun c a' w' h=>hQp c _ _ w' h) (.inl ⟨hwt,hv1⟩) hv2
   ·unfold Region.free
    rw [hof']
    refine List.all_eq_true.2 fun j hj=>?_
    have hj:=List.mem_range.1 hj
    by_cases hjf:j=f
    ·simp [hjf]
    cases hh:listed.getD j true with
    | true=>simp
    | false =>
     have hmem:j∈m++(ei::fl):=by
      by_cases h1:j∈m
      ·exact List.mem_append_left _ h1
      ·refine List.mem_append_right _ (Classical.byContradiction fun h2=>?_)
       rw [hw j hj h1 h2] at hh;cases hh
     split
     ·rename_i oj hoj
      rcases hok.apart j oj hmem hjf hoj with h | h
      ·rw [h];simp
      ·rw [h];simp
     ·simp
   ·rw [List.contains_iff_mem,mem_ready]
    exact ⟨hf3,of,hof',haftf⟩
  refine ⟨fun hr=>absurd (fun i hi _ _=>xeO hB hs hr i hi) hall,fun i hi=>?_⟩
  rw [mem_ready] at hi
  obtain ⟨hu,o,ho,haft⟩:=hi
  have him:i∉m:=fun him=>hlr ⟨i,o,hu,ho,haft,him⟩
  have hst:=step i o hu ho haft him
  unfold wpOp
  rw [ho]
  simp only
  split
  ·rename_i hwt;rw [if_pos hwt] at hst;exact .inl hst
  ·rename_i hwt;rw [if_neg hwt] at hst;exact hst
theorem Rel.drawn {w0:Base} {G:Gh} {F:Fr} {a:Act} {w:World} (h:Rel w0 G F a w) (n:Nat):Rel w0 G F a { w with drawn:=n }:=by
 refine h.move ⟨h.below.os,h.below.tape,h.below.output,h.below.size,h.below.block⟩ (.refl G) (fun _ _=>rfl) rfl rfl (fun k cells b e1 e2=>?_) (fun id r v e1 e2=>?_) h.stb h.own h.rowv h.sub (fun x id hx=>h.wr x id hx)
 ·exact xf7.carry (w:=w) (.refl G) (fun _ _=>rfl) (fun h=>⟨rfl,h⟩) (h.boxes k cells b e1 e2)
 ·exact xbk.carry (w:=w) (fun _ h=>h) (fun _ _=>rfl) (fun x hx=>⟨rfl,hx⟩) (h.rows id r v e1 e2)
theorem xi1 {m:List Nat} (hB:xow ops m=true) (hm:P.follows .mixedOrders=true) {w0:Base} {G:Gh} {a:Act} {w:World} (hS:St w0 G F a w) (hst:Steps P ops.toList (early m 0 ops.toList) F p F') {T:Tab} (hT:xaz P T) (ei:Nat) {fl:List Nat} (hL1:xlW ops m (ei::fl)=true)
 (hL2:∀f∈fl,xkX T F' ops m (ei::fl) ei f=true∧∀o,ops[f]? = some o→∀x∈o.after,Region.binds .any x=true→x.on≠ei) (hL3:fl=[]∨Region.noSelect ops=true) {id:Nat} {Q:Exit→Act→World→Prop} (hQp:∀c a a' w,Q (.panic c) a w→Q (.panic c) a' w)
 (hQ:∀(fuel:Nat) (listed:Array Bool) (G:Gh) (a:Act) (w:World),St w0 G F' a w→listed.size=ops.size→count ops listed≤fuel→Down ops listed→(∀j,j<ops.size→(listed.getD j true=true↔j∉m))→wpAny P .any ops Q fuel listed a w)
 (hQe:∀(fuel:Nat) (listed:Array Bool) (G:Gh) (a:Act) (w:World) (oe:Oper),ops[ei]? = some oe→St w0 G (forget oe.dst F') a w→listed.size=ops.size→count ops listed≤fuel+1→Down ops listed→(∀j,j<ops.size→(listed.getD j true=true↔(j∉m∧j≠ei)))→∀i∈m,i∈Region.ready .any ops listed→wpOp P ops Q i (wpAny P .any ops Q fuel (listed.setIfInBounds i true)) a w):(Code.region id ops true).wp P Q a w:=by
 have hR:=hS.rel
 have hk:Keys F:=⟨hS.krow,hS.kbox,hS.kdis⟩
 have hg:=hst.grow
 have hnt:∀t,F.nt≤t→lk F.tmps t=none:=by
  intro t ht
  cases h:lk F.tmps t with
  | none=>rfl
  | some tv =>
   obtain ⟨v,h1,_⟩:=hR.tmps t tv h
   rw [Array.getElem?_eq_none (by rw [hR.size];exact ht)] at h1
   cases h1
 refine wp_region_any hm (xpo hB (w0:=w0) hk hst ei hL1 hT hL2 hL3 hQp hQ hQe hnt _ _ G _ _ (by simp) ?_ ?_ ?_ ?_)
 ·unfold count
  exact Nat.le_trans (List.length_filter_le _ _) (by simp)
 ·intro j o hj hl
  have hlt:=xbY hj
  simp [hlt] at hl
 ·intro j _ hj
  simp [hj]
 ·have hR1:=hR.drawn (w.drawn+1)
  refine ⟨⟨hR1.below,hR1.defers,by have:=hR1.size;rw [this];exact hg.nt.symm,fun t tv h=>(nomatch h),fun k cells b e1 e2=>?_,fun id r v e1 e2=>?_,hR1.stb,hR1.own,hR1.rowv,hR1.sub,hR1.wr,fun tv v ho=>⟨(hR1.out tv v ho).1,by show xiS F'.pin tv=true;rw [hg.pin];exact (hR1.out tv v ho).2⟩⟩,fun id h=>?_,fun t tv ha e=>?_⟩
  ·have hlt:k<F.next:=by
    rcases Nat.lt_or_ge k F.next with h' | h'
    ·exact h'
    ·rw [(hS.free k h').2.1] at e2;cases e2
   exact hR1.boxes k cells b (by rw [←hg.box k hlt];exact e1) e2
  ·have hlt:id<F.next:=by
    rcases Nat.lt_or_ge id F.next with h' | h'
    ·exact h'
    ·rw [(hS.free id h').1] at e2;cases e2
   exact hR1.rows id r v (by rw [←hg.row id hlt];exact e1) e2
  ·refine hS.free id ?_
   rcases h with h | ⟨i,_,h⟩
   ·have:=hg.next;omega
   ·exact (hst.takes_in h).1
  ·have hno:∀o∈early m 0 ops.toList,o.dst≠some t:=by
    intro o ho hd
    obtain ⟨j,hj⟩:=List.mem_iff_getElem?.1 ho
    have:=ha j o hj hd
    have hlt:j<ops.size:=by
     have:=(List.getElem?_eq_some_iff.1 hj).1
     rw [xia] at this;simpa using this
    simp [hlt] at this
   obtain ⟨tv0,h1,h2⟩:=(Steps.ref hno hst).bwd e
   obtain ⟨v,h3,h4⟩:=hR1.tmps t tv0 h1
   exact ⟨v,h3,h2.iff.1 h4⟩
end
end Go.Ev
/- The operations one after the other. -/
namespace Go.Ev
open Go.RowKit
section
variable {P : Program} {T : Tab} {C : Orac} {o : Oper} {F : Fr} {w0 : Base} {G : Gh} {a : Act} {w : World}
theorem St.put {w0:Base} {G:Gh} {F:Fr} {a:Act} {w:World} (h:St w0 G F a w) (d:Option Tmp) {tv:TV} {v:Value} (hv:xcy G w tv v):St w0 G (put F d tv) (a.put d v) w:=by
 obtain ⟨r1,r2,r3,r4⟩:=xcV F d tv
 exact ⟨h.rel.put d tv v hv,fun id hi=>h.free id (by rw [r3] at hi;exact hi),fun id r e=>by rw [r3];exact h.krow id r (by rw [←r1];exact e),fun id r e=>by rw [r3];exact h.kbox id r (by rw [←r2];exact e),
  fun id r c e e'=>h.kdis id r c (by rw [←r1];exact e) (by rw [←r2];exact e')⟩
theorem St.keys (h:St w0 G F a w):Keys F:=⟨h.krow,h.kbox,h.kdis⟩
theorem St.adds (h:St w0 G F a w) {A:Adds} {tv:TV} (hY:Yields P o F A tv) (hA:AOK F A) {K:Act→World→Prop} {Q:Exit→Act→World→Prop}
 (hK:∀G' a' w',St w0 G' (Ev.put (F.plus A) o.dst tv) a' w'→K a' w'):o.wp P a w K Q:=by
 refine hY w0 G F a w K Q (.refl _ _) h.rel (fun id h1 _=>h.free id h1) fun G' v w' hR hv hAp=>hK G' _ _ ?_
 have hk:=xkK (d:=none) (v:=tv) h.keys hA
 refine St.put (F:=F.plus A) ⟨hR,fun id hi=>?_,hk.row,hk.box,hk.dis⟩ o.dst hv
 have hi':F.next+A.n≤id:=hi
 have hf:=h.free id (by omega)
 exact ⟨(hAp.row id (.inr hi')).trans hf.1,(hAp.bx id (.inr hi')).trans hf.2.1,fun x hx=>hf.2.2 x ((hAp.own id x (.inr hi')).1 hx)⟩
def Gh.share (G:Gh) (id:Nat):Gh:={ G with S:=fun x=>G.S x∨G.own x=some id,own:=fun x=>if G.own x=some id then none else G.own x }
theorem xbk.shared (hR:Rel w0 G F a w) {id:Nat} {r:Row} {v:Value} (h:xbk G w id r v):xbp (fun x=>G.S x∨G.own x=some id) w [r.e] [v]:=by
 unfold xbk at h
 split at h
 ·exact h.carry (fun x hx=>.inl hx) (fun _ _=>rfl)
 ·obtain ⟨hs,rows,xs,N,he,hl,hvv,hown,hb,hk⟩:=h
  rw [he]
  rcases hown.2 with ⟨rfl,h0⟩ | ⟨g,cap,cur,rfl,_,hh,hn,hm,hc,htk⟩
  ·have:rows=[]:=List.eq_nil_of_length_eq_zero h0
   subst this
   exact ⟨[],.lnil .nil,by simp⟩
  ·by_cases h0:rows=[]
   ·subst h0;exact ⟨[],.lnil .nil,by simp⟩
   ·refine ⟨g::(N++[]),.list hs h0 hl hn (fun j u hu=>?_) hvv .nil,fun x hx=>?_⟩
    ·have hlt:j<rows.length*r.sz:=by
      have:=hown.1
      rcases Nat.lt_or_ge j xs.length with h' | h'
      ·omega
      ·simp [List.getElem?_eq_none h'] at hu
     rw [Nat.zero_add,hown.cellAt j hlt]
     exact hu
    ·simp only [List.append_nil,List.mem_cons] at hx
     rcases hx with rfl | hx
     ·exact .inr (hb _ rfl)
     ·split at hk
      ·exact .inr (hk.2 x hx).1
      ·exact .inl (hk x hx)
theorem St.share (h:St w0 G F a w) (id:Nat) {r:Row} (hr:lk F.rows id=some r):∃G',St w0 G' (share F id) a w∧xfg G G'∧∃r',lk (Ev.share F id).rows id=some r'∧r'.kind=.shared∧r'.e=r.e∧r'.sz=r.sz∧r'.elem=r.elem∧G'.bx=G.bx∧∀x q,G.own x=some q→q≠id→G'.own x=some q:=by
 by_cases hk:r.kind=.shared
 ·have:Ev.share F id=F:=by simp [Ev.share,hr,hk]
  rw [this]
  exact ⟨G,h,.refl G,r,hr,hk,rfl,rfl,rfl,rfl,fun _ _ h _=>h⟩
 ·have hF:Ev.share F id=setRow F id { r with kind:=.shared }:=by simp [Ev.share,hr,hk]
  rw [hF]
  have hR:=h.rel
  have hG:xfg G (G.share id):=⟨fun _ h=>.inl h,fun _ _ h=>h,fun _ _ h=>h⟩
  refine ⟨G.share id,⟨hR.move hR.below hG (fun _ _=>rfl) rfl rfl ?_ ?_ ?_ ?_ hR.rowv (fun x hx=>hx.elim (hR.sub x) fun e=>.inr (hR.own x id e).1) (fun x i hx=>hR.wr x i (by
   have hx':(if G.own x=some id then none else G.own x)=some i:=hx
   split at hx'
   ·cases hx'
   ·exact hx')),fun i hi=>?_,fun i r' e=>?_,h.kbox,fun i r' c e e'=>?_⟩,hG,{ r with kind:=.shared },by simp [setRow,xas],rfl,rfl,rfl,rfl,rfl,fun x q hx hq=>?_⟩
  ·intro k cells b e1 e2
   refine xf7.carry (w:=w) hG (fun _ _=>rfl) (fun ho=>⟨rfl,?_⟩) (hR.boxes k cells b e1 e2)
   show (if G.own b=some id then none else G.own b)=some k
   rw [ho,if_neg]
   intro e
   injection e with e
   subst e
   exact h.kdis k r cells hr e1
  ·intro i r' v e1 e2
   simp only [setRow,xas] at e1
   by_cases hi:id=i
   ·subst hi
    rw [if_pos rfl] at e1
    injection e1 with e1
    subst e1
    have:=xbk.shared hR (hR.rows id r v hr e2)
    unfold xbk
    exact this
   ·rw [if_neg hi] at e1
    refine xbk.carry (w:=w) hG.S (fun _ _=>rfl) (fun x hx=>⟨rfl,?_⟩) (hR.rows i r' v e1 e2)
    show (if G.own x=some id then none else G.own x)=some i
    rw [hx,if_neg (fun e=>hi (by injection e with e;exact e.symm))]
  ·intro x hx
   rcases hx with hx | hx
   ·have:=hR.stb x hx
    refine ⟨?_,this.2⟩
    show (if G.own x=some id then none else G.own x)=none
    rw [this.1];simp
   ·refine ⟨?_,(hR.own x id hx).2⟩
    show (if G.own x=some id then none else G.own x)=none
    rw [if_pos hx]
  ·intro x i hx
   have hx':(if G.own x=some id then none else G.own x)=some i:=hx
   split at hx'
   ·cases hx'
   ·exact hR.own x i hx'
  ·have hf:=h.free i hi
   refine ⟨hf.1,hf.2.1,fun x hx=>hf.2.2 x ?_⟩
   have hx':(if G.own x=some id then none else G.own x)=some i:=hx
   split at hx'
   ·cases hx'
   ·exact hx'
  ·simp only [setRow,xas] at e
   split at e
   ·rename_i hi;subst hi;exact h.krow id r hr
   ·exact h.krow i r' e
  ·simp only [setRow,xas] at e
   split at e
   ·rename_i hi;subst hi;exact h.kdis id r c hr e'
   ·exact h.kdis i r' c e e'
  ·show (if G.own x=some id then none else G.own x)=some q
   rw [if_neg (fun e=>hq (by rw [hx] at e;injection e))]
   exact hx
theorem xdN (F:Fr) (id:Nat):(share F id).tmps=F.tmps∧(share F id).boxes=F.boxes∧(share F id).next=F.next∧(share F id).nt=F.nt:=by
 unfold share
 split
 ·split
  ·exact ⟨rfl,rfl,rfl,rfl⟩
  ·exact ⟨rfl,rfl,rfl,rfl⟩
 ·exact ⟨rfl,rfl,rfl,rfl⟩
theorem St.share' (h:St w0 G F a w) (id:Nat):∃G',St w0 G' (Ev.share F id) a w:=by
 cases hr:lk F.rows id with
 | none =>
  have:Ev.share F id=F:=by simp [Ev.share,hr]
  rw [this];exact ⟨G,h⟩
 | some r=>obtain ⟨G',h1,_⟩:=h.share id hr;exact ⟨G',h1⟩
theorem St.shareCells:∀(cs:List Cell) {G:Gh} {F:Fr},St w0 G F a w→∃G',St w0 G' (Ev.shareCells F cs) a w
 | [],G,F,h=>⟨G,h⟩
 | c::cs,G,F,h=>by
  cases c with
  | own id=>obtain ⟨G1,h1⟩:=h.share' id;exact St.shareCells cs h1
  | pv _=>exact St.shareCells cs h
  | nil _ _=>exact St.shareCells cs h
  | dead=>exact St.shareCells cs h
  | kb _=>exact St.shareCells cs h
  | ptr _ _=>exact St.shareCells cs h
  | sptr _=>exact St.shareCells cs h
  | optr _ _ _ _=>exact St.shareCells cs h
  | fn _ _=>exact St.shareCells cs h
  | sfn _ _=>exact St.shareCells cs h
theorem xaT:∀(cs:List Cell) (F:Fr),(shareCells F cs).tmps=F.tmps
 | [],_=>rfl
 | c::cs,F=>by
  cases c with
  | own id=>exact (xaT cs _).trans (xdN F id).1
  | pv _=>exact xaT cs F
  | nil _ _=>exact xaT cs F
  | dead=>exact xaT cs F
  | kb _=>exact xaT cs F
  | ptr _ _=>exact xaT cs F
  | sptr _=>exact xaT cs F
  | optr _ _ _ _=>exact xaT cs F
  | fn _ _=>exact xaT cs F
  | sfn _ _=>exact xaT cs F
theorem St.shareTV (h:St w0 G F a w) {v:TV} {F':Fr} (e:shareTV F v=some F'):∃G',St w0 G' F' a w:=by
 unfold Ev.shareTV at e
 split at e
 ·split at e
  ·injection e with e;subst e;exact h.share' _
  ·injection e with e;subst e;exact ⟨G,h⟩
  ·cases e
  ·injection e with e;subst e;exact ⟨G,h⟩
 ·injection e with e;subst e;exact St.shareCells _ h
 ·injection e with e;subst e;exact ⟨G,h⟩
theorem xkl {F F':Fr} {v:TV} (e:shareTV F v=some F'):F'.tmps=F.tmps:=by
 unfold shareTV at e
 split at e
 ·split at e
  ·injection e with e;subst e;exact (xdN _ _).1
  ·injection e with e;subst e;rfl
  ·cases e
  ·injection e with e;subst e;rfl
 ·injection e with e;subst e;exact xaT _ _
 ·injection e with e;subst e;rfl
theorem xkB {F F':Fr} (h:F'.tmps=F.tmps) (t:TypeId) (x:Operand):opnd T F' t x=opnd T F t x:=by
 cases x<;>simp [opnd,h]
theorem St.shareArgs:∀{xs:List Operand} {ts:List TypeId} {G:Gh} {F F':Fr},St w0 G F a w→Ev.shareArgs T F xs ts=some F'→(∃G',St w0 G' F' a w)∧F'.tmps=F.tmps
 | [],ts,G,F,F',h,e=>by simp only [Ev.shareArgs] at e;injection e with e;subst e;exact ⟨⟨G,h⟩,rfl⟩
 | x::xs,ts,G,F,F',h,e=>by
  simp only [Ev.shareArgs] at e
  split at e
  ·rename_i v hv
   split at e
   ·rename_i F1 h1
    obtain ⟨G1,h2⟩:=h.shareTV h1
    obtain ⟨h3,h4⟩:=St.shareArgs h2 e
    exact ⟨h3,h4.trans (xkl h1)⟩
   ·cases e
  ·cases e
theorem St.setBox (h:St w0 G F a w) {k b:Nat} {cells cs:List Cell} {vs:List Value} (hk:lk F.boxes k=some cells) (hb:G.bx k=some b) (hc:xaN G w cs vs) :
 St w0 G (setBox F k cs) a (w.setRow b vs.toArray):=by
 have hR:=h.rel
 obtain ⟨ho,us,e,hh,_⟩:=hR.boxes k cells b hk hb
 have hlt:=hR.own b k ho
 have hne:∀x,G.S x→x≠b:=fun x hx e'=>by subst e';have:=(hR.stb x hx).1;rw [ho] at this;cases this
 have hold:∀x,x≠b→(w.setRow b vs.toArray).heap[x]? = w.heap[x]? := fun x hx=>setRow_other w b x _ hx
 have hsz:(w.setRow b vs.toArray).heap.size=w.heap.size:=size_setRow w b _
 have hS:∀x,G.S x→(w.setRow b vs.toArray).heap[x]? = w.heap[x]? := fun x hx=>hold x (hne x hx)
 have hnew:(w.setRow b vs.toArray).heap[b]? = some (.cells vs.toArray e (0,0)):=setRow_heap w b _ _ e _ hh
 refine ⟨hR.move ⟨hR.below.os,hR.below.tape,hR.below.output,by rw [hsz];exact hR.below.size,fun i hi=>?_⟩ (.refl G) hS rfl rfl ?_ ?_ ?_ ?_ hR.rowv hR.sub (fun x i hx=>by
  by_cases hxb:x=b
  ·subst hxb;exact ⟨_,_,hnew⟩
  ·exact (hR.wr x i hx).stay (hold x hxb)),h.free,h.krow,fun i c e=>?_,fun i r c e e'=>?_⟩
 ·rw [hold i (by omega)];exact hR.below.block i hi
 ·intro k' cells' b' e1 e2
  simp only [Ev.setBox,xas] at e1
  by_cases hkk:k=k'
  ·subst hkk
   rw [if_pos rfl] at e1
   injection e1 with e1
   subst e1
   rw [hb] at e2
   injection e2 with e2
   subst e2
   exact ⟨ho,vs,e,hnew,xaN.carry (.refl G) hS hc⟩
  ·rw [if_neg hkk] at e1
   refine xf7.carry (.refl G) hS (fun hob=>⟨hold b' (fun e'=>?_),hob⟩) (hR.boxes k' cells' b' e1 e2)
   subst e'
   rw [ho] at hob
   injection hob with hob
   exact hkk hob
 ·intro i r v e1 e2
  refine xbk.carry (fun _ h=>h) hS (fun x hx=>⟨hold x (fun e'=>?_),hx⟩) (hR.rows i r v e1 e2)
  subst e'
  rw [ho] at hx
  injection hx with hx
  subst hx
  exact h.kdis k r cells e1 hk
 ·intro x hx;have:=hR.stb x hx;rw [hsz];exact this
 ·intro x i hx;rw [hsz];exact hR.own x i hx
 ·simp only [Ev.setBox,xas] at e
  split at e
  ·rename_i hi;subst hi;exact h.kbox k cells hk
  ·exact h.kbox i c e
 ·simp only [Ev.setBox,xas] at e'
  split at e'
  ·rename_i hi;subst hi;exact h.kdis k r cells e hk
  ·exact h.kdis i r c e e'
theorem xkm {t:TypeId} {x y:Operand} {i:TI} {b off:Nat} {v:TV} {cs ns:List Cell} (hT:xaz P T) (h:St w0 G F a w) (hop:o.op=.store t x y) (hi:lk T.ti t=some i) (ex:opnd T F 0 x=some (.one (.ptr b off))) (ey:opnd T F t y=some v)
 (hb:lk F.boxes b=some cs) (hn:xdy v=some ns) (hl:ns.length=i.size) (hle:off+ns.length≤cs.length) {K:Act→World→Prop} {Q:Exit→Act→World→Prop}
 (hK:∀G' a' w',St w0 G' (put (setBox F b (cs.take off++ns++cs.drop (off+ns.length))) o.dst .undef) a' w'→K a' w'):o.wp P a w K Q:=by
 have hR:=h.rel
 obtain ⟨g,hg,hx⟩:=hR.eval T 0 x _ ex
 obtain ⟨vs,hv,hvr⟩:=xg2 hR (hR.eval T t y _ ey) hn
 obtain ⟨ho,us,e,hh,hc⟩:=hR.boxes b cs g hb hg
 have l1:=hc.len
 have l2:=hvr.len
 have hone:=xaN.one hR hvr
 have hst:=run_storeCells_at P g off e vs 0 us.toArray w hh (by simp;omega) hone
 have hrun:(execOp a.eval o).run P w=.ok .skip (w.setRow g (us.take off++vs++us.drop (off+vs.length)).toArray):=by
  simp only [execOp,hop,Instr.storeAt,hx,Instr.sureAddr,storeVar]
  have hsz:¬(a.eval y).cells.size≠i.size:=by rw [hv];simp;omega
  simp only [Sem.run_bind,Sem.run_pure,Result.andThen_ok,xa3 (hT.ty t i hi),Sem.run_ite,if_neg hsz]
  rw [hv]
  have hst':(storeCells ⟨g,off,none⟩ vs 0).run P w=.ok () (w.setRow g (us.take off++vs++us.drop (off+vs.length)).toArray):=by simpa using hst
  rw [hst']
  rfl
 refine xf9 hrun (hK G _ _ (St.put ?_ o.dst (fun b hb=>by cases hb)))
 refine h.setBox hb hg ?_
 rw [←l2]
 exact ((hc.take off).append hvr).append (hc.drop _)
theorem xpS {t:TypeId} {x:Operand} {lo hi:Option Operand} {l u:Option Nat} {rows:List (List PV)} {id:Nat} {r:Row} (hT:xaz P T) (h:St w0 G F a w) (hop:o.op=.slice t x lo hi none) (h0:T.esz t≠0) (ex:opnd T F 0 x=some (.one (.own id))) (hr:lk F.rows id=some r) (he:r.e=.list (T.esz t) rows)
 (hlo:xg1 T F lo l) (hhi:xg1 T F hi u) (h1:l.getD 0≤u.getD rows.length) (h2:u.getD rows.length≤rows.length) {K:Act→World→Prop} {Q:Exit→Act→World→Prop}
 (hK:∀G' a' w',St w0 G' (put (share F id) o.dst (.one (.pv (.list (T.esz t) ((rows.take (u.getD rows.length)).drop (l.getD 0)))))) a' w'→K a' w'):o.wp P a w K Q:=by
 obtain ⟨G',hS,hG,r',hr',hk',he',_,_⟩:=h.share id hr
 have hR:=hS.rel
 have hrow:G'.row id=some (a.eval x):=hG.row _ _ (h.rel.eval T 0 x _ ex)
 have e1:=hR.rows id r' _ hr' hrow
 unfold xbk at e1
 rw [hk',he',he] at e1
 obtain ⟨ti,tj,q1,q2,q3,q4⟩:=hT.esz (Nat.pos_of_ne_zero h0)
 have hd:=xj3 q4
 have hel:P.elem t=ti.elem:=by simp [Program.elem,q4]
 have hsz:(sizeOf (P.elem t)).run P w=.ok (T.esz t) w:=by rw [hel,xa3 (hT.ty _ _ q2),q3]
 obtain ⟨z,k1,k2⟩:=xpb (Nat.pos_of_ne_zero h0) e1 hd hsz (hlo.v (X:=fun _=>True) (.refl _ _) (fun _ _=>trivial) h.rel) (hhi.v (X:=fun _=>True) (.refl _ _) (fun _ _=>trivial) h.rel) h1 h2
 refine xbv (v:=z) (w':=w) ?_ (hK G' _ _ (hS.put o.dst k2))
 simp only [execOp,hop,Option.map_none]
 rw [Sem.run_bind,run_sliceAt_slice _ _ _ _ _ _ hd,k1]
 rfl
theorem xue {x:Option Operand} {n:Option Nat} (h:(x=none∧n=none)∨∃y p kd m,x=some y∧opnd T F 0 y=some (.one (.pv p))∧p=.int kd m∧0≤m∧n=some m.toNat):xg1 T F x n:=h
end
end Go.Ev
/- The frame that a round hands on, laid over the head's. -/
namespace Go.Ev
open Go.RowKit
structure Ext (c c':Cv):Prop where
 m:∀i x,lk c.m i=some x→lk c'.m i=some x
 fz:∀j∈c.fz,j∈c'.fz
theorem Ext.refl (c:Cv):Ext c c:=⟨fun _ _ h=>h,fun _ h=>h⟩
theorem Ext.trans {a b c:Cv} (h:Ext a b) (k:Ext b c):Ext a c:=⟨fun i x e=>k.m i x (h.m i x e),fun j e=>k.fz j (h.fz j e)⟩
structure Named (G G':Gh) (cf:Cv):Prop where
 S:∀x,G.S x→G'.S x
 fz:∀j∈cf.fz,∀x,G.own x=some j→G'.S x
 row:∀i j v,lk cf.m i=some (some j)→G.row j=some v→G'.row i=some v
 nil:∀i,lk cf.m i=some none→G'.row i=some (.slice none 0 0)
 bx:∀i j b,lk cf.m i=some (some j)→G.bx j=some b→G'.bx i=some b
section
variable {P : Program} {F H : Fr} {w0 : Base} {G : Gh} {a : Act} {w : World}
theorem Cv.add_ext {c c':Cv} {i:Nat} {j:Option Nat} (h:c.add i j=some c'):Ext c c'∧lk c'.m i=some j:=by
 unfold Cv.add at h
 split at h
 ·rename_i j' e
  split at h
  ·rename_i hj;injection h with h;subst h;subst hj;exact ⟨.refl _,e⟩
  ·cases h
 ·rename_i e
  injection h with h
  subst h
  refine ⟨⟨fun k x hk=>?_,fun _ h=>h⟩,by simp [xas]⟩
  simp only [xas]
  split
  ·rename_i hik;subst hik;rw [e] at hk;cases hk
  ·exact hk
theorem xfz:∀{c c':Cv} {xs ys zs:List Cap},xcN c xs ys=some (zs,c')→Ext c c'∧∀{cf:Cv} {G':Gh},Ext c' cf→Named G G' cf→∀{vs:List Value},xbD G w ys vs→xbD G' w zs vs
 | c,c',[],[],zs,h=>by simp only [xcN] at h;injection h with h;injection h with h1 h2;subst h1;subst h2;exact ⟨.refl _,fun _ _ _ hv=>hv⟩
 | c,c',.box i::r,.box j::s,zs,h=>by
  simp only [xcN] at h
  split at h
  ·rename_i c1 h1
   split at h
   ·rename_i q c2 h2
    injection h with h;injection h with e1 e2;subst e1;subst e2
    obtain ⟨k1,k2⟩:=Cv.add_ext h1
    obtain ⟨k3,k4⟩:=xfz h2
    refine ⟨k1.trans k3,fun {cf G'} hx hN {vs} hv=>?_⟩
    obtain ⟨v,r',e,⟨b,hb,hvb⟩,hr⟩:=hv
    exact ⟨v,r',e,⟨b,hN.bx i j b (hx.m _ _ (k3.m _ _ k2)) hb,hvb⟩,k4 hx hN hr⟩
   ·cases h
  ·cases h
 | c,c',.ro a::r,.ro b::s,zs,h=>by
  simp only [xcN] at h
  split at h
  ·split at h
   ·rename_i q c2 h2
    injection h with h;injection h with e1 e2;subst e1;subst e2
    obtain ⟨k3,k4⟩:=xfz h2
    refine ⟨k3,fun {cf G'} hx hN {vs} hv=>?_⟩
    obtain ⟨v,r',e,⟨b',off,hvb,hat⟩,hr⟩:=hv
    exact ⟨v,r',e,⟨b',off,hvb,hat.carry hN.S fun _ _=>rfl⟩,k4 hx hN hr⟩
   ·cases h
  ·cases h
 | _,_,[],_::_,_,h=>by simp [xcN] at h
 | _,_,_::_,[],_,h=>by simp [xcN] at h
 | _,_,.box _::_,.ro _::_,_,h=>by simp [xcN] at h
 | _,_,.ro _::_,.box _::_,_,h=>by simp [xcN] at h
theorem xm5 (hR:Rel w0 G F a w) {c c':Cv} {x y z:Cell} (h:xqA F c x y=some (z,c')):Ext c c'∧∀{cf:Cv} {G':Gh},Ext c' cf→Named G G' cf→∀{v:Value},xdb G w y v→xdb G' w z v:=by
 unfold xqA at h
 split at h
 ·injection h with h;injection h with e1 e2;subst e1;subst e2
  exact ⟨.refl _,fun _ hN v hv=>xbp.carry hN.S (fun _ _=>rfl) hv⟩
 ·rename_i b
  injection h with h;injection h with e1 e2;subst e1;subst e2
  exact ⟨.refl _,fun _ hN v hv=>by have:v=.bool b:=hv;subst this;exact xbp.bool⟩
 ·injection h with h;injection h with e1 e2;subst e1;subst e2
  exact ⟨.refl _,fun _ hN v hv=>by have:v=.slice none 0 0:=hv;subst this;exact ⟨[],.lnil .nil,by simp⟩⟩
 ·rename_i j
  split at h
  ·rename_i r hr
   injection h with h;injection h with e1 e2;subst e1;subst e2
   refine ⟨⟨fun _ _ h=>h,fun k hk=>List.mem_cons_of_mem _ hk⟩,fun hx hN v hv=>?_⟩
   have:=xbk.shared hR (hR.rows j r v hr hv)
   exact xbp.carry (fun x hx'=>by
    rcases hx' with hx' | hx'
    ·exact hN.S x hx'
    ·exact hN.fz j (hx.fz j (List.mem_cons_self ..)) x hx') (fun _ _=>rfl) this
  ·cases h
 ·rename_i i j
  split at h
  ·rename_i c1 h1
   injection h with h;injection h with e1 e2;subst e1;subst e2
   obtain ⟨k1,k2⟩:=Cv.add_ext h1
   exact ⟨k1,fun hx hN v hv=>hN.row i j v (hx.m _ _ k2) hv⟩
  ·cases h
 ·rename_i i e sz
  split at h
  ·rename_i c1 h1
   injection h with h;injection h with e1 e2;subst e1;subst e2
   obtain ⟨k1,k2⟩:=Cv.add_ext h1
   exact ⟨k1,fun hx hN v hv=>by have:v=.slice none 0 0:=hv;subst this;exact hN.nil i (hx.m _ _ k2)⟩
  ·cases h
 ·rename_i i o' j o''
  split at h
  ·rename_i ho
   split at h
   ·rename_i c1 h1
    injection h with h;injection h with e1 e2;subst e1;subst e2
    obtain ⟨k1,k2⟩:=Cv.add_ext h1
    refine ⟨k1,fun hx hN v hv=>?_⟩
    obtain ⟨b,hb,hv⟩:=hv
    subst ho
    exact ⟨b,hN.bx i j b (hx.m _ _ k2) hb,hv⟩
   ·cases h
  ·cases h
 ·split at h
  ·injection h with h;injection h with e1 e2;subst e1;subst e2
   refine ⟨.refl _,fun hx hN v hv=>?_⟩
   obtain ⟨b,off,e,hat⟩:=hv
   exact ⟨b,off,e,hat.carry hN.S fun _ _=>rfl⟩
  ·cases h
 ·split at h
  ·rename_i hf
   split at h
   ·rename_i q c1 h1
    injection h with h;injection h with e1 e2;subst e1;subst e2
    obtain ⟨k1,k2⟩:=xfz (G:=G) (w:=w) h1
    refine ⟨k1,fun hx hN v hv=>?_⟩
    obtain ⟨vs,e,hc⟩:=hv
    exact ⟨vs,by rw [hf];exact e,k2 hx hN hc⟩
   ·cases h
  ·cases h
 ·injection h with h;injection h with e1 e2;subst e1;subst e2
  exact ⟨.refl _,fun _ hN v hv=>xdb.one hR hv⟩
 ·cases h
theorem xid (hR:Rel w0 G F a w):∀{c c':Cv} {xs ys zs:List Cell},xgQ F c xs ys=some (zs,c')→Ext c c'∧∀{cf:Cv} {G':Gh},Ext c' cf→Named G G' cf→∀{vs:List Value},xaN G w ys vs→xaN G' w zs vs
 | c,c',[],[],zs,h=>by simp only [xgQ] at h;injection h with h;injection h with h1 h2;subst h1;subst h2;exact ⟨.refl _,fun _ _ _ hv=>hv⟩
 | c,c',x::xs,y::ys,zs,h=>by
  simp only [xgQ] at h
  split at h
  ·rename_i z c1 h1
   split at h
   ·rename_i q c2 h2
    injection h with h;injection h with e1 e2;subst e1;subst e2
    obtain ⟨k1,k2⟩:=xm5 hR h1
    obtain ⟨k3,k4⟩:=xid hR h2
    refine ⟨k1.trans k3,fun {cf G'} hx hN {vs} hv=>?_⟩
    obtain ⟨v,r',e,hv1,hr⟩:=hv
    exact ⟨v,r',e,k2 (k3.trans hx) hN hv1,k4 hx hN hr⟩
   ·cases h
  ·cases h
 | _,_,[],_::_,_,h=>by simp [xgQ] at h
 | _,_,_::_,[],_,h=>by simp [xgQ] at h
theorem xqz (hR:Rel w0 G F a w) {c c':Cv} {x y z:TV} (h:xr5 F c x y=some (z,c')):Ext c c'∧∀{cf:Cv} {G':Gh},Ext c' cf→Named G G' cf→∀{v:Value},xcy G w y v→xcy G' w z v:=by
 unfold xr5 at h
 split at h
 ·split at h
  ·rename_i z' c1 h1
   injection h with h;injection h with e1 e2;subst e1;subst e2
   obtain ⟨k1,k2⟩:=xm5 hR h1
   exact ⟨k1,fun hx hN v hv=>k2 hx hN hv⟩
  ·cases h
 ·split at h
  ·rename_i z' c1 h1
   injection h with h;injection h with e1 e2;subst e1;subst e2
   obtain ⟨k1,k2⟩:=xid hR h1
   refine ⟨k1,fun hx hN v hv=>?_⟩
   obtain ⟨vs,e,hc⟩:=hv
   exact ⟨vs,e,k2 hx hN hc⟩
  ·cases h
 ·injection h with h;injection h with e1 e2;subst e1;subst e2
  exact ⟨.refl _,fun _ _ _ h=>h⟩
 ·injection h with h;injection h with e1 e2;subst e1;subst e2
  exact ⟨.refl _,fun _ _ _ ⟨_,e,_⟩ b hb=>by rw [e] at hb;cases hb⟩
 ·injection h with h;injection h with e1 e2;subst e1;subst e2
  exact ⟨.refl _,fun _ _ _ ⟨_,e⟩ b hb=>by rw [e] at hb;cases hb⟩
 ·cases h
theorem xlc (hR:Rel w0 G F a w):∀{c c':Cv} {xs zs:List (Nat×TV)},xld F c xs=some (zs,c')→Ext c c'∧∀{cf:Cv} {G':Gh},Ext c' cf→Named G G' cf→∀t z,lk zs t=some z →
 (∃x,lk xs t=some x)∧∃y,lk F.tmps t=some y∧∀v,xcy G w y v→xcy G' w z v
 | c,c',[],zs,h=>by simp only [xld] at h;injection h with h;injection h with h1 h2;subst h1;subst h2;exact ⟨.refl _,fun _ _ t z e=>by cases e⟩
 | c,c',(t,x)::xs,zs,h=>by
  simp only [xld] at h
  split at h
  case h_2=>cases h
  rename_i vt hvt
  split at h
  ·rename_i y c1 h1
   split at h
   ·rename_i q c2 h2
    injection h with h;injection h with e1 e2;subst e1;subst e2
    obtain ⟨k1,k2⟩:=xqz hR h1
    obtain ⟨k3,k4⟩:=xlc hR h2
    refine ⟨k1.trans k3,fun hx hN u z e=>?_⟩
    simp only [xas] at e ⊢
    split at e
    ·rename_i htu
     injection e with e
     subst e
     subst htu
     rw [if_pos rfl]
     exact ⟨⟨x,rfl⟩,vt,hvt,fun v hv=>k2 (k3.trans hx) hN hv⟩
    ·rename_i htu
     rw [if_neg htu]
     exact k4 hx hN u z e
   ·cases h
  ·cases h
theorem xie (hR:Rel w0 G F a w):∀{c c':Cv} {xs zs:List (Nat×List Cell)},xif F c xs=some (zs,c')→Ext c c'∧∀{cf:Cv} {G':Gh},Ext c' cf→Named G G' cf→∀i z,lk zs i=some z →
 (∃x,lk xs i=some x)∧∃j y,lk cf.m i=some (some j)∧lk F.boxes j=some y∧∀vs,xaN G w y vs→xaN G' w z vs
 | c,c',[],zs,h=>by simp only [xif] at h;injection h with h;injection h with h1 h2;subst h1;subst h2;exact ⟨.refl _,fun _ _ t z e=>by cases e⟩
 | c,c',(i,x)::xs,zs,h=>by
  simp only [xif] at h
  have skip:xif F c xs=some (zs,c')→Ext c c'∧∀{cf:Cv} {G':Gh},Ext c' cf→Named G G' cf→∀i' z,lk zs i'=some z →
   (∃x',lk ((i,x)::xs) i'=some x')∧∃j y,lk cf.m i'=some (some j)∧lk F.boxes j=some y∧∀vs,xaN G w y vs→xaN G' w z vs:=by
   intro h2
   obtain ⟨k3,k4⟩:=xie hR h2
   refine ⟨k3,fun hx hN u z e=>?_⟩
   obtain ⟨⟨x',hx'⟩,h5⟩:=k4 hx hN u z e
   refine ⟨?_,h5⟩
   simp only [xas]
   split
   ·exact ⟨_,rfl⟩
   ·exact ⟨x',hx'⟩
  split at h
  ·rename_i j hj
   split at h
   ·rename_i y hy
    split at h
    ·rename_i z c1 h1
     split at h
     ·rename_i q c2 h2
      injection h with h;injection h with e1 e2;subst e1;subst e2
      obtain ⟨k1,k2⟩:=xid hR h1
      obtain ⟨k3,k4⟩:=xie hR h2
      refine ⟨k1.trans k3,fun hx hN u z' e=>?_⟩
      simp only [xas] at e ⊢
      split at e
      ·rename_i htu
       injection e with e
       subst e
       subst htu
       rw [if_pos rfl]
       exact ⟨⟨x,rfl⟩,j,y,hx.m _ _ (k3.m _ _ (k1.m _ _ hj)),hy,fun vs hv=>k2 (k3.trans hx) hN hv⟩
      ·rename_i htu
       rw [if_neg htu]
       exact k4 hx hN u z' e
     ·cases h
    ·cases h
   ·cases h
  ·exact skip h
end
end Go.Ev
/- The frame laid over the head's, against the machine. -/
namespace Go.Ev
open Go.RowKit
section
variable {P : Program} {F H : Fr} {w0 : Base} {G : Gh} {a : Act} {w : World}
theorem xic:∀{c:Cv} {xs zs:List (Nat×Row)},xgP F c xs=some zs→∀i z,lk zs i=some z→(∃x,lk xs i=some x) ∧
 ((∃j s,lk c.m i=some (some j)∧lk F.rows j=some s∧z.elem=s.elem∧z.sz=s.sz∧z.e=s.e∧(s.kind=z.kind∨s.kind=.deep∧z.kind=.flat)∧z.kind≠.shared)∨(lk c.m i=some none∧z.e=.list z.sz []∧0<z.sz))
 | c,[],zs,h=>by simp only [xgP] at h;injection h with h;subst h;intro i z e;cases e
 | c,(i,r)::xs,zs,h=>by
  simp only [xgP] at h
  have step:∀(q:List (Nat×Row)),xgP F c xs=some q→∀i' z,lk q i'=some z→i≠i'→(∃x,lk ((i,r)::xs) i'=some x)∧((∃j s,lk c.m i'=some (some j)∧lk F.rows j=some s∧z.elem=s.elem∧z.sz=s.sz∧z.e=s.e∧(s.kind=z.kind∨s.kind=.deep∧z.kind=.flat)∧z.kind≠.shared)∨(lk c.m i'=some none∧z.e=.list z.sz []∧0<z.sz)):=by
   intro q hq i' z e hne
   obtain ⟨h1,h2⟩:=xic hq i' z e
   refine ⟨?_,h2⟩
   simp only [xas,if_neg hne]
   exact h1
  split at h
  ·rename_i j hj
   split at h
   ·rename_i s hs
    split at h
    ·rename_i hc
     split at h
     ·rename_i q hq
      injection h with h
      subst h
      intro i' z e
      simp only [xas] at e
      split at e
      ·rename_i hii
       subst hii
       injection e with e
       subst e
       exact ⟨⟨r,by simp [xas]⟩,.inl ⟨j,s,hj,hs,hc.1.symm,hc.2.1.symm,rfl,hc.2.2.1,hc.2.2.2⟩⟩
      ·rename_i hii;exact step q hq i' z e hii
     ·cases h
    ·cases h
   ·cases h
  ·rename_i hj
   split at h
   ·cases h
   ·rename_i h0
    split at h
    ·rename_i q hq
     injection h with h
     subst h
     intro i' z e
     simp only [xas] at e
     split at e
     ·rename_i hii
      subst hii
      injection e with e
      subst e
      exact ⟨⟨r,by simp [xas]⟩,.inr ⟨hj,rfl,Nat.pos_of_ne_zero h0⟩⟩
     ·rename_i hii;exact step q hq i' z e hii
    ·cases h
  ·rename_i hj
   intro i' z e
   obtain ⟨h1,h2⟩:=xic h i' z e
   refine ⟨?_,h2⟩
   simp only [xas]
   split
   ·exact ⟨_,rfl⟩
   ·exact h1
theorem xg4 {id:Nat} {r:Row} {v:Value} (hk:r.kind≠.shared) (h:0<r.sz∧∃rows xs N,r.e=.list r.sz rows∧(∀q∈rows,q.length=r.sz)∧xak w rows.flatten xs N ∧
 w.ownsRow 0 r.elem r.sz v rows.length xs∧(∀b,v.ownBlock=some b→G.own b=some id) ∧
 (if r.kind=.deep then N.Nodup∧(∀x∈N,G.own x=some id∧v.ownBlock≠some x) else ∀x∈N,G.S x)):xbk G w id r v:=by
 obtain ⟨kind,elem,sz,e⟩:=r
 cases kind with
 | deep=>exact h
 | flat=>exact h
 | shared=>exact absurd rfl hk
theorem xkH {α:Type}:∀{l:List (Nat×α)} {i:Nat} {x:α},lk l i=some x→(i,x)∈l
 | (k,v)::l,i,x,h=>by
  simp only [xas] at h
  split at h
  ·rename_i e;injection h with h;subst h;subst e;exact List.mem_cons_self ..
  ·exact List.mem_cons_of_mem _ (xkH h)
theorem xkD:∀{l:List (Nat×Option Nat)} {i i' j:Nat},xgG (l.filterMap (·.2))=true→(i,some j)∈l→(i',some j)∈l→i=i'
 | (k,v)::l,i,i',j,h,h1,h2=>by
  have hnot:∀{q:Nat},v=some j→xgG (l.filterMap (·.2))=true∧((q,some j)∈l→False):=by
   intro q hv
   subst hv
   simp only [List.filterMap_cons,xgG,Bool.and_eq_true] at h
   refine ⟨h.2,fun hq=>?_⟩
   have:j∈l.filterMap (·.2):=List.mem_filterMap.2 ⟨_,hq,rfl⟩
   simp at h
   exact h.1 q hq
  have htl:xgG (l.filterMap (·.2))=true:=by
   cases v with
   | none=>simpa using h
   | some v=>simp only [List.filterMap_cons,xgG,Bool.and_eq_true] at h;exact h.2
  rcases List.mem_cons.1 h1 with e1 | h1'
  ·injection e1 with e1 e1'
   rcases List.mem_cons.1 h2 with e2 | h2'
   ·injection e2 with e2 e2';rw [e1,e2]
   ·exact ((hnot e1'.symm).2 h2').elim
  ·rcases List.mem_cons.1 h2 with e2 | h2'
   ·injection e2 with e2 e2'
    exact ((hnot e2'.symm).2 h1').elim
   ·exact xkD htl h1' h2'
def Cv.inv (c:Cv) (j:Nat):Option Nat:=(c.m.find? fun x=>x.2==some j).map (·.1)
theorem Cv.inv_of {c:Cv} (hn:xgG (c.m.filterMap (·.2))=true) {i j:Nat} (h:lk c.m i=some (some j)):c.inv j=some i:=by
 have hm:=xkH h
 unfold Cv.inv
 cases hf:c.m.find? (fun x=>x.2==some j) with
 | none=>have:=List.find?_eq_none.1 hf _ hm;simp at this
 | some y =>
  have h1:=List.mem_of_find?_eq_some hf
  have h2:=List.find?_some hf
  simp at h2
  obtain ⟨i',o⟩:=y
  simp at h2
  subst h2
  simp [xkD hn h1 hm]
theorem Cv.inv_mem {c:Cv} {i j:Nat} (h:c.inv j=some i):(i,some j)∈c.m:=by
 unfold Cv.inv at h
 cases hf:c.m.find? (fun x=>x.2==some j) with
 | none=>rw [hf] at h;cases h
 | some y =>
  rw [hf] at h
  have h1:=List.mem_of_find?_eq_some hf
  have h2:=List.find?_some hf
  simp at h2 h
  obtain ⟨i',o⟩:=y
  simp at h2 h
  subst h2;subst h
  exact h1
def keeps (rs:List (Nat×Row)) (G:Gh) (i j x:Nat):Bool:=match lk rs i with
 | some r=>if r.kind=.deep then true else match G.row j with | some v=>decide (v.ownBlock=some x) | none=>false
 | none=>true
def xem (rs:List (Nat×Row)) (c:Cv) (G:Gh) (x:Nat):Option Nat:=match G.own x with
 | some j=>match c.inv j with
  | some i=>if keeps rs G i j x=true then some i else none
  | none=>none
 | none=>none
def Gh.conv (rs:List (Nat×Row)) (c:Cv) (G:Gh):Gh where
 S:=fun x=>G.S x∨(G.own x≠none∧xem rs c G x=none)
 own:=xem rs c G
 row:=fun i=>match lk c.m i with
  | some (some j)=>G.row j
  | some none=>some (.slice none 0 0)
  | none=>none
 bx:=fun i=>match lk c.m i with
  | some (some j)=>G.bx j
  | _=>none
theorem xn9 {G':Gh} {cf:Cv} (hN:Named G G' cf) {p:List Nat} (hp:∀k,p.contains k=true→lk cf.m k=some (some k)) {tv:TV} {v:Value} (hs:xiS p tv=true) (h:xcy G w tv v):xcy G' w tv v:=by
 have hcap:∀{c:Cap} {v:Value},xii p c=true→xis G w c v→xis G' w c v:=fun {c v} hc h=>by
  cases c with
  | box k=>obtain ⟨b,h1,h2⟩:=h;exact ⟨b,hN.bx k k b (hp k hc) h1,h2⟩
  | ro c=>obtain ⟨b,off,h1,h2⟩:=h;exact ⟨b,off,h1,h2.carry hN.S (fun _ _=>rfl)⟩
 have hcaps:∀{cs:List Cap} {vs:List Value},cs.all (xii p)=true→xbD G w cs vs→xbD G' w cs vs:=fun {cs}=>by
  induction cs with
  | nil=>intro vs _ h;exact h
  | cons c cs ih =>
   intro vs hc h
   obtain ⟨v,r,e,h1,h2⟩:=h
   simp only [List.all_cons,Bool.and_eq_true] at hc
   exact ⟨v,r,e,hcap hc.1 h1,ih hc.2 h2⟩
 have hcell:∀{c:Cell} {v:Value},xdw p c=true→xdb G w c v→xdb G' w c v:=fun {c v} hc h=>by
  cases c with
  | pv q=>exact xbp.carry hN.S (fun _ _=>rfl) h
  | nil e sz=>exact h
  | own id=>cases hc
  | dead=>exact h
  | kb b=>exact h
  | ptr k off=>obtain ⟨b,h1,h2⟩:=h;exact ⟨b,hN.bx k k b (hp k hc) h1,h2⟩
  | sptr cells=>obtain ⟨b,off,h1,h2⟩:=h;exact ⟨b,off,h1,h2.carry hN.S (fun _ _=>rfl)⟩
  | optr id sz i off=>cases hc
  | fn f caps=>obtain ⟨vs,h1,h2⟩:=h;exact ⟨vs,h1,hcaps hc h2⟩
  | sfn f q=>obtain ⟨b,off,h1,h2⟩:=h;exact ⟨b,off,h1,h2.carry hN.S (fun _ _=>rfl)⟩
 have hcells:∀{cs:List Cell} {vs:List Value},cs.all (xdw p)=true→xaN G w cs vs→xaN G' w cs vs:=fun {cs}=>by
  induction cs with
  | nil=>intro vs _ h;exact h
  | cons c cs ih =>
   intro vs hc h
   obtain ⟨v,r,e,h1,h2⟩:=h
   simp only [List.all_cons,Bool.and_eq_true] at hc
   exact ⟨v,r,e,hcell hc.1 h1,ih hc.2 h2⟩
 cases tv with
 | one c=>exact hcell hs h
 | agg cs=>obtain ⟨vs,e,h⟩:=h;exact ⟨vs,e,hcells hs h⟩
 | tup _=>cases hs
 | undef=>exact h
 | mt=>exact h
theorem xoH:∀{l:List Nat} {k:Nat},l.contains k=true→lk (l.map fun k=>(k,some k)) k=some (some k)
 | [],k,h=>by simp at h
 | x::l,k,h=>by
  rw [List.map_cons,xas]
  split
  ·rename_i e;rw [e]
  ·rename_i e
   refine xoH ?_
   simp only [List.contains_cons,Bool.or_eq_true,beq_iff_eq] at h
   rcases h with h | h
   ·exact absurd h.symm e
   ·exact h
theorem xgx {F1:Fr} (hH:Keys H) (hHt:∀t tv,lk H.tmps t=some tv→t<H.nt) (h:conv H F=some F1) (hS:St w0 G F a w):∃G',St w0 G' F1 a w:=by
 have hR:=hS.rel
 unfold conv at h
 split at h
 ·rename_i ts c1 hts
  split at h
  ·rename_i bs c hbs
   split at h
   ·rename_i rs hrs
    simp only at h
    split at h
    ·rename_i hc
     obtain ⟨hnd,hfz,hlt,hnt⟩:=hc
     injection h with h
     subst h
     obtain ⟨x1,t1⟩:=xlc hR hts
     obtain ⟨x2,b2⟩:=xie hR hbs
     have r3:=xic hrs
     have hlti:∀i o,(i,o)∈c.m→i<H.next:=fun i o hm=>by
      have:=List.all_eq_true.1 hlt _ hm
      simpa using this
     have hown0:∀x,G.own x=none→xem rs c G x=none:=fun x hx=>by simp [xem,hx]
     have hN:Named G (G.conv rs c) c:=by
      refine ⟨fun x hx=>.inl hx,fun j hj x hx=>.inr ⟨by rw [hx];simp,?_⟩,fun i j v h1 h2=>?_,fun i h1=>?_,fun i j b h1 h2=>?_⟩
      ·have hinv:c.inv j=none:=by
        cases hi:c.inv j with
        | none=>rfl
        | some i =>
         exfalso
         have hm:=Cv.inv_mem hi
         have h1:=List.all_eq_true.1 hfz j (List.mem_filterMap.2 ⟨_,hm,rfl⟩)
         simp at h1
         exact h1 hj
       simp [xem,hx,hinv]
      ·show (match lk c.m i with | some (some j)=>G.row j | some none=>_ | none=>none)=_
       rw [h1];exact h2
      ·show (match lk c.m i with | some (some j)=>G.row j | some none=>_ | none=>none)=_
       rw [h1]
      ·show (match lk c.m i with | some (some j)=>G.bx j | _=>none)=_
       rw [h1];exact h2
     have hsame:∀x,G.S x→w.heap[x]? = w.heap[x]? := fun _ _=>rfl
     have hwr:∀x i,(G.conv rs c).own x=some i→Wr1 w x:=fun x i hx=>by
      have hx':xem rs c G x=some i:=hx
      unfold xem at hx'
      split at hx'
      ·rename_i j ho;exact hR.wr x j ho
      ·cases hx'
     refine ⟨G.conv rs c,⟨hR.below,hR.defers,by rw [hR.size];exact hnt.symm,fun t tv e=>?_,fun k cells b e1 e2=>?_,fun i r v e1 e2=>?_,fun x hx=>?_,fun x i hx=>?_,fun i v hv=>?_,fun x hx=>hx.elim (hR.sub x) fun hx=>.inr ?_,hwr,fun tv v ho=>⟨xn9 hN (fun k hk=>x2.m _ _ (x1.m _ _ (xoH hk))) (hR.out tv v ho).2 (hR.out tv v ho).1,(hR.out tv v ho).2⟩⟩,fun i hi=>?_,fun i r e=>?_,fun i cs e=>?_,fun i r cs e e'=>?_⟩
     ·obtain ⟨⟨x,hx⟩,tv0,hF,h2⟩:=t1 x2 hN t tv e
      obtain ⟨v,h3,h4⟩:=hR.tmps t tv0 hF
      exact ⟨v,h3,h2 v h4⟩
     ·obtain ⟨⟨x,hx⟩,j,y,h1,h2,h3⟩:=b2 (.refl _) hN k cells e1
      have e3:G.bx j=some b:=by
       have:(match lk c.m k with | some (some j)=>G.bx j | _=>none)=some b:=e2
       rw [h1] at this;exact this
      obtain ⟨ho,vs,e,hh,hcs⟩:=hR.boxes j y b h2 e3
      refine ⟨?_,vs,e,hh,h3 vs hcs⟩
      have hrk:lk rs k=none:=by
       cases hq:lk rs k with
       | none=>rfl
       | some z=>obtain ⟨⟨x',hx'⟩,_⟩:=r3 k z hq;exact (hH.dis k x' x hx' hx).elim
      show xem rs c G b=some k
      simp [xem,ho,Cv.inv_of hnd h1,keeps,hrk]
     ·obtain ⟨_,hrow⟩:=r3 i r e1
      rcases hrow with ⟨j,s,h1,h2,h3,h4,h5,h6,h7⟩ | ⟨h1,h2,h3⟩
      ·have e3:G.row j=some v:=by
        have:(match lk c.m i with | some (some j)=>G.row j | some none=>_ | none=>none)=some v:=e2
        rw [h1] at this;exact this
       have hok:=hR.rows j s v h2 e3
       have hinv:=Cv.inv_of hnd h1
       have hsk:s.kind≠.shared:=by
        rcases h6 with h6 | h6
        ·rw [h6];exact h7
        ·rw [h6.1];intro h;cases h
       have hownb:∀b,v.ownBlock=some b→G.own b=some j→xem rs c G b=some i:=by
        intro b hb ho
        simp only [xem,ho,hinv]
        rw [if_pos]
        unfold keeps
        rw [e1]
        simp only [e3,hb]
        split<;>simp
       unfold xbk at hok
       split at hok
       ·rename_i hk;exact absurd hk hsk
       ·obtain ⟨hs,rows,xs,N,he,hl,hvv,hown,hb,hkk⟩:=hok
        ·refine xg4 h7 ⟨by rw [h4];exact hs,rows,xs,N,by rw [h5,h4];exact he,by rw [h4];exact hl,hvv,by rw [h3,h4];exact hown,fun b hb'=>hownb b hb' (hb b hb'),?_⟩
         by_cases hd:r.kind=.deep
         ·rw [if_pos hd]
          have hsd:s.kind=.deep:=by
           rcases h6 with h6 | h6
           ·rw [h6];exact hd
           ·exact h6.1
          rw [if_pos hsd] at hkk
          refine ⟨hkk.1,fun x hx=>⟨?_,(hkk.2 x hx).2⟩⟩
          show xem rs c G x=some i
          simp only [xem,(hkk.2 x hx).1,hinv]
          rw [if_pos]
          unfold keeps
          rw [e1]
          simp [hd]
         ·rw [if_neg hd]
          intro x hx
          by_cases hsd:s.kind=.deep
          ·rw [if_pos hsd] at hkk
           obtain ⟨q1,q2⟩:=hkk.2 x hx
           refine .inr ⟨by rw [q1];simp,?_⟩
           simp only [xem,q1,hinv]
           rw [if_neg]
           unfold keeps
           rw [e1]
           simp [hd,e3,q2]
          ·rw [if_neg hsd] at hkk
           exact .inl (hkk x hx)
      ·have e3:v=.slice none 0 0:=by
        have:(match lk c.m i with | some (some j)=>G.row j | some none=>some (Value.slice none 0 0) | none=>none)=some v:=e2
        rw [h1] at this
        injection this with this
        exact this.symm
       subst e3
       by_cases hk:r.kind=.shared
       ·unfold xbk
        rw [hk,h2]
        exact ⟨[],.lnil .nil,by simp⟩
       ·refine xg4 hk ⟨h3,[],[],[],h2,by simp,.nil,World.ownsRow_nil _ _ _ _,fun b hb=>by simp [Value.ownBlock] at hb,?_⟩
        split<;>simp
     ·rcases hx with hx | hx
      ·have:=hR.stb x hx
       exact ⟨hown0 x this.1,this.2⟩
      ·refine ⟨hx.2,?_⟩
       cases ho:G.own x with
       | none=>exact absurd ho hx.1
       | some j=>exact (hR.own x j ho).2
     ·have hx':xem rs c G x=some i:=hx
      unfold xem at hx'
      split at hx'
      ·rename_i j ho;exact hR.own x j ho
      ·cases hx'
     ·have hv':(match lk c.m i with | some (some j)=>G.row j | some none=>some (Value.slice none 0 0) | none=>none)=some v:=hv
      split at hv'
      ·exact hR.rowv _ v hv'
      ·injection hv' with hv';exact ⟨_,_,_,hv'.symm⟩
      ·cases hv'
     ·cases ho:G.own x with
      | none=>exact absurd ho hx.1
      | some j=>exact (hR.own x j ho).1
     ·have hi':H.next≤i:=hi
      have hno:lk c.m i=none:=by
       cases hq:lk c.m i with
       | none=>rfl
       | some o=>have:=hlti i o (xkH hq);omega
      refine ⟨?_,?_,fun x hx=>?_⟩
      ·show (match lk c.m i with | some (some j)=>G.row j | some none=>some (Value.slice none 0 0) | none=>none)=none
       rw [hno]
      ·show (match lk c.m i with | some (some j)=>G.bx j | _=>none)=none
       rw [hno]
      ·have hx':xem rs c G x=some i:=hx
       unfold xem at hx'
       split at hx'
       ·split at hx'
        ·rename_i i' hi2
         split at hx'
         ·injection hx' with hx'
          have:=hlti _ _ (Cv.inv_mem hi2)
          omega
         ·cases hx'
        ·cases hx'
       ·cases hx'
     ·obtain ⟨⟨x,hx⟩,_⟩:=r3 i r e
      exact hH.row i x hx
     ·obtain ⟨⟨x,hx⟩,_⟩:=b2 (.refl _) hN i cs e
      exact hH.box i x hx
     ·obtain ⟨⟨x,hx⟩,_⟩:=r3 i r e
      obtain ⟨⟨y,hy⟩,_⟩:=b2 (.refl _) hN i cs e'
      exact hH.dis i x y hx hy
    ·cases h
   ·cases h
  ·cases h
 ·cases h
theorem xhc {weak:Bool} {c c':Cell} {F':Fr} (h:xnA weak F c=(c',F')) (hS:St w0 G F a w):∃G',St w0 G' F' a w∧xfg G G'∧F'.tmps=F.tmps∧F'.boxes=F.boxes∧F'.nt=F.nt∧G'.bx=G.bx∧∀v,xdb G w c v→xdb G' w c' v:=by
 have triv:∀{c'':Cell},(c'',F)=(c',F')→(∀v,xdb G w c v→xdb G w c'' v)→∃G',St w0 G' F' a w∧xfg G G'∧F'.tmps=F.tmps∧F'.boxes=F.boxes∧F'.nt=F.nt∧G'.bx=G.bx∧∀v,xdb G w c v→xdb G' w c' v:=by
  intro c'' e hc
  injection e with e1 e2
  subst e1;subst e2
  exact ⟨G,hS,.refl G,rfl,rfl,rfl,rfl,hc⟩
 unfold xnA at h
 split at h
 ·rename_i e sz
  split at h
  ·exact triv h fun v hv=>by have:v=.slice none 0 0:=hv;subst this;exact ⟨[],.lnil .nil,by simp⟩
  ·rename_i hw
   injection h with h1 h2
   subst h1;subst h2
   have hsz:0<sz:=by simp at hw;omega
   have hR:=hS.rel
   have hf:=hS.free F.next (Nat.le_refl _)
   let G':Gh:={ G with row:=fun j=>if j=F.next then some (.slice none 0 0) else G.row j }
   have hG:xfg G G':=⟨fun _ h=>h,(fun i v h=>by
    show (if i=F.next then _ else G.row i)=_
    rw [if_neg]
    ·exact h
    ·intro e;subst e;rw [hf.1] at h;cases h),fun _ _ h=>h⟩
   refine ⟨G',⟨hR.move hR.below hG (fun _ _=>rfl) rfl rfl (fun k cells b e1 e2=>?_) (fun i r v e1 e2=>?_) hR.stb hR.own (fun i v hv=>?_) hR.sub (fun x i hx=>hR.wr x i hx),fun i hi=>?_,fun i r e1=>?_,fun i r e1=>?_,fun i r cs e1 e2=>?_⟩,hG,rfl,rfl,rfl,rfl,fun v hv=>?_⟩
   ·exact xf7.carry (w:=w) hG (fun _ _=>rfl) (fun h=>⟨rfl,h⟩) (hR.boxes k cells b e1 e2)
   ·simp only [newRow,xas] at e1
    have e3:(if i=F.next then some (Value.slice none 0 0) else G.row i)=some v:=e2
    split at e1
    ·rename_i hi
     subst hi
     injection e1 with e1
     subst e1
     rw [if_pos rfl] at e3
     injection e3 with e3
     subst e3
     exact ⟨hsz,[],[],[],rfl,by simp,.nil,World.ownsRow_nil _ _ _ _,fun b hb=>by simp [Value.ownBlock] at hb,by simp⟩
    ·rename_i hi
     rw [if_neg (fun h=>hi h.symm)] at e3
     exact xbk.carry (w:=w) (fun _ h=>h) (fun _ _=>rfl) (fun x hx=>⟨rfl,hx⟩) (hR.rows i r v e1 e3)
   ·have e3:(if i=F.next then some (Value.slice none 0 0) else G.row i)=some v:=hv
    split at e3
    ·injection e3 with e3;exact ⟨_,_,_,e3.symm⟩
    ·exact hR.rowv i v e3
   ·have hi':F.next+1≤i:=hi
    have hf':=hS.free i (by omega)
    refine ⟨?_,hf'.2.1,hf'.2.2⟩
    show (if i=F.next then _ else G.row i)=none
    rw [if_neg (by omega)];exact hf'.1
   ·simp only [newRow,xas] at e1
    show i<F.next+1
    split at e1
    ·omega
    ·have:=hS.krow i r e1;omega
   ·have:=hS.kbox i r e1
    show i<F.next+1
    omega
   ·simp only [newRow,xas] at e1
    split at e1
    ·rename_i hi;subst hi;have:=hS.kbox _ cs e2;omega
    ·exact hS.kdis i r cs e1 e2
   ·have:v=.slice none 0 0:=hv
    subst this
    show (if F.next=F.next then _ else _)=_
    rw [if_pos rfl]
 ·rename_i id
  split at h
  ·rename_i r hr
   split at h
   ·injection h with h1 h2
    subst h1;subst h2
    obtain ⟨G',k1,k2,r',k3,k4,k5,_,_,kb,_⟩:=hS.share id hr
    obtain ⟨t1,t2,t3,t4⟩:=xdN F id
    refine ⟨G',k1,k2,t1,t2,t4,kb,fun v hv=>?_⟩
    have h1:G'.row id=some v:=k2.row _ _ hv
    have h2:=k1.rel.rows id r' v k3 h1
    unfold xbk at h2
    rw [k4,k5] at h2
    exact h2
   ·exact triv h fun v hv=>hv
  ·exact triv h fun v hv=>by obtain ⟨_,_,_,rfl⟩:=hS.rel.rowv id v hv;rfl
 ·exact triv h fun v hv=>by obtain ⟨b,n,cap,_,rfl⟩:=hv;rfl
 ·exact triv h fun v hv=>by rename_i b;have:v=.bool b:=hv;subst this;exact xbp.bool
 ·exact triv h fun v hv=>hv
theorem xkQ {weak:Bool}:∀{cs cs':List Cell} {F F':Fr} {G:Gh},xkR weak F cs=(cs',F')→St w0 G F a w→∃G',St w0 G' F' a w∧xfg G G'∧F'.tmps=F.tmps∧F'.boxes=F.boxes∧F'.nt=F.nt∧G'.bx=G.bx∧∀vs,xaN G w cs vs→xaN G' w cs' vs
 | [],cs',F,F',G,h,hS=>by
  simp only [xkR] at h;injection h with h1 h2;subst h1;subst h2
  exact ⟨G,hS,.refl G,rfl,rfl,rfl,rfl,fun _ h=>h⟩
 | c::cs,cs',F,F',G,h,hS=>by
  simp only [xkR] at h
  injection h with h1 h2
  subst h1;subst h2
  obtain ⟨G1,k1,k2,k3,k4,k5,kb,k6⟩:=xhc (weak:=weak) (F:=F) (c:=c) rfl hS
  obtain ⟨G2,m1,m2,m3,m4,m5,mb,m6⟩:=xkQ (weak:=weak) (cs:=cs) rfl k1
  refine ⟨G2,m1,k2.trans m2,m3.trans k3,m4.trans k4,m5.trans k5,mb.trans kb,fun vs ⟨v,r,e,h1,h2⟩=>⟨v,r,e,xdb.carry m2 (fun _ _=>rfl) (k6 v h1),m6 r (xaN.carry k2 (fun _ _=>rfl) h2)⟩⟩
theorem xjh {ws:List Nat}:∀{cs cs':List Cell} {F F':Fr} {G:Gh},xhZ ws F cs=(cs',F')→St w0 G F a w→∃G',St w0 G' F' a w∧xfg G G'∧F'.tmps=F.tmps∧F'.boxes=F.boxes∧F'.nt=F.nt∧G'.bx=G.bx∧∀vs,xaN G w cs vs→xaN G' w cs' vs
 | [],cs',F,F',G,h,hS=>by
  simp only [xhZ] at h;injection h with h1 h2;subst h1;subst h2
  exact ⟨G,hS,.refl G,rfl,rfl,rfl,rfl,fun _ h=>h⟩
 | c::cs,cs',F,F',G,h,hS=>by
  simp only [xhZ] at h
  injection h with h1 h2
  subst h1;subst h2
  obtain ⟨G1,k1,k2,k3,k4,k5,kb,k6⟩:=xhc (weak:=xpM ws F c) (F:=F) (c:=c) rfl hS
  obtain ⟨G2,m1,m2,m3,m4,m5,mb,m6⟩:=xjh (ws:=ws) (cs:=cs) rfl k1
  refine ⟨G2,m1,k2.trans m2,m3.trans k3,m4.trans k4,m5.trans k5,mb.trans kb,fun vs ⟨v,r,e,h1,h2⟩=>⟨v,r,e,xdb.carry m2 (fun _ _=>rfl) (k6 v h1),m6 r (xaN.carry k2 (fun _ _=>rfl) h2)⟩⟩
theorem xqo {ws:List Nat} {weak:Bool} {x y:TV} {F':Fr} (h:xl4 ws weak F x=(y,F')) (hS:St w0 G F a w):∃G',St w0 G' F' a w∧xfg G G'∧F'.tmps=F.tmps∧F'.boxes=F.boxes∧F'.nt=F.nt∧G'.bx=G.bx∧∀v,xcy G w x v→xcy G' w y v:=by
 cases x with
 | one c =>
  simp only [xl4] at h
  injection h with h1 h2
  subst h1;subst h2
  obtain ⟨G1,k1,k2,k3,k4,k5,kb,k6⟩:=xhc (weak:=weak||xpM ws F c) (F:=F) (c:=c) rfl hS
  exact ⟨G1,k1,k2,k3,k4,k5,kb,fun v hv=>k6 v hv⟩
 | agg cs =>
  simp only [xl4] at h
  injection h with h1 h2
  subst h1;subst h2
  obtain ⟨G1,k1,k2,k3,k4,k5,kb,k6⟩:=xkQ (weak:=weak) (F:=F) (cs:=cs) rfl hS
  exact ⟨G1,k1,k2,k3,k4,k5,kb,fun v ⟨vs,e,hv⟩=>⟨vs,e,k6 vs hv⟩⟩
 | tup ts =>
  simp only [xl4] at h
  injection h with h1 h2
  subst h1;subst h2
  exact ⟨G,hS,.refl G,rfl,rfl,rfl,rfl,fun _ ⟨_,e,_⟩ b hb=>by rw [e] at hb;cases hb⟩
 | undef =>
  simp only [xl4] at h
  injection h with h1 h2
  subst h1;subst h2
  exact ⟨G,hS,.refl G,rfl,rfl,rfl,rfl,fun _ h=>h⟩
 | mt =>
  simp only [xl4] at h
  injection h with h1 h2
  subst h1;subst h2
  exact ⟨G,hS,.refl G,rfl,rfl,rfl,rfl,fun _ ⟨_,e⟩ b hb=>by rw [e] at hb;cases hb⟩
theorem xhY {ws:List Nat}:∀{keep:List (Nat×Bool)} {l:List (Nat×TV)} {F F':Fr} {G:Gh},xcK ws F keep=(l,F')→St w0 G F a w→∃G',St w0 G' F' a w∧xfg G G'∧F'.tmps=F.tmps∧F'.boxes=F.boxes∧F'.nt=F.nt∧G'.bx=G.bx ∧
 ∀t tv,lk l t=some tv→∃v,a.tmps[t]? = some v∧xcy G' w tv v
 | [],l,F,F',G,h,hS=>by
  simp only [xcK] at h;injection h with h1 h2;subst h1;subst h2
  exact ⟨G,hS,.refl G,rfl,rfl,rfl,rfl,fun _ _ h=>by cases h⟩
 | (t,wk)::r,l,F,F',G,h,hS=>by
  simp only [xcK] at h
  split at h
  ·rename_i v hv
   injection h with h1 h2
   subst h1;subst h2
   obtain ⟨G1,k1,k2,k3,k4,k5,kb,k6⟩:=xqo (weak:=wk) (F:=F) (x:=v) rfl hS
   obtain ⟨G2,m1,m2,m3,m4,m5,mb,m6⟩:=xhY (ws:=ws) (keep:=r) rfl k1
   refine ⟨G2,m1,k2.trans m2,m3.trans k3,m4.trans k4,m5.trans k5,mb.trans kb,fun u tv e=>?_⟩
   simp only [xas] at e
   split at e
   ·rename_i htu
    subst htu
    injection e with e
    subst e
    obtain ⟨z,h3,h4⟩:=hS.rel.tmps t v hv
    exact ⟨z,h3,xcy.carry m2 (fun _ _=>rfl) (k6 z h4)⟩
   ·exact m6 u tv e
  ·exact xhY h hS
theorem xkS {ws:List Nat}:∀{bl l:List (Nat×List Cell)} {F F':Fr} {G:Gh},xfc ws F bl=(l,F')→St w0 G F a w→∃G',St w0 G' F' a w∧xfg G G'∧F'.tmps=F.tmps∧F'.boxes=F.boxes∧F'.nt=F.nt∧G'.bx=G.bx ∧
 ∀k cs,lk l k=some cs→∃cs0,lk bl k=some cs0∧∀vs,xaN G w cs0 vs→xaN G' w cs vs
 | [],l,F,F',G,h,hS=>by
  simp only [xfc] at h;injection h with h1 h2;subst h1;subst h2
  exact ⟨G,hS,.refl G,rfl,rfl,rfl,rfl,fun _ _ h=>by cases h⟩
 | (k,cs)::r,l,F,F',G,h,hS=>by
  simp only [xfc] at h
  injection h with h1 h2
  subst h1;subst h2
  obtain ⟨G1,k1,k2,k3,k4,k5,kb,k6⟩:=xjh (ws:=ws) (F:=F) (cs:=cs) rfl hS
  obtain ⟨G2,m1,m2,m3,m4,m5,mb,m6⟩:=xkS (ws:=ws) (bl:=r) rfl k1
  refine ⟨G2,m1,k2.trans m2,m3.trans k3,m4.trans k4,m5.trans k5,mb.trans kb,fun u c e=>?_⟩
  simp only [xas] at e ⊢
  split at e
  ·rename_i htu
   subst htu
   rw [if_pos rfl]
   injection e with e
   subst e
   exact ⟨cs,rfl,fun vs hv=>xaN.carry m2 (fun _ _=>rfl) (k6 vs hv)⟩
  ·rename_i htu
   rw [if_neg htu]
   obtain ⟨c0,h1,h2⟩:=m6 u c e
   exact ⟨c0,h1,fun vs hv=>h2 vs (xaN.carry k2 (fun _ _=>rfl) hv)⟩
theorem xfU {ws:List Nat} {keep:List (Nat×Bool)} (h:xjX ws keep F=some H) (hS:St w0 G F a w):∃G',St w0 G' H a w:=by
 unfold xjX at h
 simp only at h
 obtain ⟨G1,k1,k2,k3,k4,k5,kb,k6⟩:=xhY (ws:=ws) (keep:=keep) (F:=F) rfl hS
 obtain ⟨G2,m1,m2,m3,m4,m5,mb,m6⟩:=xkS (ws:=ws) (bl:=(xcK ws F keep).2.boxes) (F:=(xcK ws F keep).2) rfl k1
 have hS2:St w0 G2 { (xfc ws (xcK ws F keep).2 (xcK ws F keep).2.boxes).2 with tmps:=(xcK ws F keep).1,boxes:=(xfc ws (xcK ws F keep).2 (xcK ws F keep).2.boxes).1 } a w:=by
  have hR:=m1.rel
  have hbk:∀k cs,lk (xfc ws (xcK ws F keep).2 (xcK ws F keep).2.boxes).1 k=some cs→∃c0,lk (xfc ws (xcK ws F keep).2 (xcK ws F keep).2.boxes).2.boxes k=some c0:=by
   intro k cs e
   obtain ⟨c0,h1,_⟩:=m6 k cs e
   exact ⟨c0,by rw [m4];exact h1⟩
  refine ⟨⟨hR.below,hR.defers,hR.size,fun t tv e=>?_,fun k cells b e1 e2=>?_,hR.rows,hR.stb,hR.own,hR.rowv,hR.sub,hR.wr,hR.out⟩,m1.free,m1.krow,fun i cs e=>?_,fun i r cs e e'=>?_⟩
  ·obtain ⟨v,h1,h2⟩:=k6 t tv e
   exact ⟨v,h1,xcy.carry m2 (fun _ _=>rfl) h2⟩
  ·obtain ⟨c0,h1,h2⟩:=m6 k cells e1
   have h3:lk (xfc ws (xcK ws F keep).2 (xcK ws F keep).2.boxes).2.boxes k=some c0:=by rw [m4];exact h1
   obtain ⟨ho,_⟩:=hR.boxes k c0 b h3 e2
   have e3:G1.bx k=some b:=by
    have e2':G2.bx k=some b:=e2
    rwa [mb] at e2'
   obtain ⟨_,vs,e,hh,hc⟩:=k1.rel.boxes k c0 b h1 e3
   exact ⟨ho,vs,e,hh,h2 vs hc⟩
  ·obtain ⟨c0,h1⟩:=hbk i cs e;exact m1.kbox i c0 h1
  ·obtain ⟨c0,h1⟩:=hbk i cs e';exact m1.kdis i r c0 e h1
 exact xgx hS2.keys (fun t tv e=>by
  obtain ⟨v,h1,_⟩:=hS2.rel.tmps t tv e
  have:=hS2.rel.size
  rcases Nat.lt_or_ge t a.tmps.size with h' | h'
  ·rw [this] at h';exact h'
  ·rw [Array.getElem?_eq_none h'] at h1;cases h1) h hS2
theorem xqg {α:Type}:∀(l:List (Nat×α)) (seen:List Nat) (i:Nat),lk (dd seen l) i=if i∈seen then none else lk l i
 | [],seen,i=>by simp [dd,lk]
 | (k,v)::l,seen,i=>by
  unfold dd
  simp only
  split
  ·rename_i hk
   have hk':k∈seen:=by simpa using hk
   rw [xqg l seen i,xas]
   by_cases hi:i∈seen
   ·rw [if_pos hi,if_pos hi]
   ·have hne:¬k=i:=fun e=>hi (e▸hk')
    rw [if_neg hi,if_neg hi,if_neg hne]
  ·rename_i hk
   have hk':k∉seen:=by simpa using hk
   rw [xas,xas,xqg l (k::seen) i]
   by_cases hki:k=i
   ·subst hki;rw [if_pos rfl,if_pos rfl,if_neg hk']
   ·rw [if_neg hki,if_neg hki]
    by_cases hi:i∈seen
    ·rw [if_pos (by simp [hi]),if_pos hi]
    ·rw [if_neg (by simp [hi,Ne.symm hki]),if_neg hi]
theorem St.clean (h:St w0 G F a w):St w0 G (Ev.clean F) a w:=by
 have hb:∀i,lk (Ev.clean F).boxes i=lk F.boxes i:=fun i=>by show lk (dd [] F.boxes) i=_;rw [xqg];simp
 have hr:∀i,lk (Ev.clean F).rows i=lk F.rows i:=fun i=>by show lk (dd [] F.rows) i=_;rw [xqg];simp
 exact ⟨⟨h.rel.below,h.rel.defers,h.rel.size,h.rel.tmps,fun k cells b e1 e2=>h.rel.boxes k cells b (by rw [←hb];exact e1) e2,fun id r v e1 e2=>h.rel.rows id r v (by rw [←hr];exact e1) e2,h.rel.stb,h.rel.own,h.rel.rowv,h.rel.sub,h.rel.wr,h.rel.out⟩,
  h.free,fun id r e=>h.krow id r (by rw [←hr];exact e),fun id r e=>h.kbox id r (by rw [←hb];exact e),fun id r c e1 e2=>h.kdis id r c (by rw [←hr];exact e1) (by rw [←hb];exact e2)⟩
end
end Go.Ev
/- Values laid into a row; a row that takes in the blocks of others. -/
namespace Go.Ev
open Go.RowKit
theorem xdQ {G:Gh} {w:World} {id:Nat} {r:Row} {v:Value} (hk:r.kind≠.shared) (h:0<r.sz∧∃rows xs N,r.e=.list r.sz rows∧(∀q∈rows,q.length=r.sz)∧xak w rows.flatten xs N ∧
 w.ownsRow 0 r.elem r.sz v rows.length xs∧(∀b,v.ownBlock=some b→G.own b=some id) ∧
 (if r.kind=.deep then N.Nodup∧(∀x∈N,G.own x=some id∧v.ownBlock≠some x) else ∀x∈N,G.S x)):xbk G w id r v:=by
 obtain ⟨kind,elem,sz,e⟩:=r
 cases kind with
 | deep=>exact h
 | flat=>exact h
 | shared=>exact absurd rfl hk
theorem xdj {G:Gh} {w:World} {id:Nat} {r:Row} {v:Value} (hk:r.kind≠.shared) (h:xbk G w id r v):0<r.sz∧∃rows xs N,r.e=.list r.sz rows∧(∀q∈rows,q.length=r.sz)∧xak w rows.flatten xs N ∧
 w.ownsRow 0 r.elem r.sz v rows.length xs∧(∀b,v.ownBlock=some b→G.own b=some id) ∧
 (if r.kind=.deep then N.Nodup∧(∀x∈N,G.own x=some id∧v.ownBlock≠some x) else ∀x∈N,G.S x):=by
 obtain ⟨kind,elem,sz,e⟩:=r
 cases kind with
 | deep=>exact h
 | flat=>exact h
 | shared=>exact absurd rfl hk
def xcp (G:Gh) (w:World) (M:Nat→Bool) (t:Nat) (deep:Bool) (v:Value) (x:Nat):Option Nat :=
 if w.heap.size≤x then (if v.ownBlock=some x then some t else none)
 else match G.own x with
  | some id=>if M id=true then (if deep=true∨v.ownBlock=some x then some t else none) else some id
  | none=>none
def Gh.group (G:Gh) (w:World) (M:Nat→Bool) (t:Nat) (deep:Bool) (v:Value):Gh where
 S:=fun x=>G.S x∨(G.own x≠none∧xcp G w M t deep v x=none)
 own:=xcp G w M t deep v
 row:=fun j=>if j=t then some v else G.row j
 bx:=G.bx
section
variable {P : Program} {T : Tab} {F : Fr} {w0 : Base} {G : Gh} {a : Act} {w : World}
theorem St.group (h:St w0 G F a w) {M:Nat→Bool} {t nx:Nat} {deep:Bool} {v:Value} {r:Row} {w':World}
 (hos:w'.os=w.os) (htape:w'.tape=w.tape) (hout:w'.output=w.output) (hsz:w.heap.size≤w'.heap.size) (b0:Option Nat) (hb0:∀b,b0=some b→∃id,G.own b=some id∧M id=true)
 (hold:∀x,x<w.heap.size→b0≠some x→w'.heap[x]? = w.heap[x]?)
 (hM:∀id,M id=true→id≠t→lk F.rows id=none) (hMb:∀k cs,lk F.boxes k=some cs→M k=false) (ht:lk F.boxes t=none)
 (hnx:F.next≤nx) (htx:t<nx) (hgr:G.row t=none∨G.row t=some v) (htn:F.next≤t∨M t=true) (hv:∃ad l c,v=.slice ad l c) (hvb:∀b,v.ownBlock=some b→b<w'.heap.size∧(w.heap.size≤b∨∃id,G.own b=some id∧M id=true))
 (hbw:∀b,b0=some b→Wr1 w' b) (hks:r.kind≠.shared) (hok:xbk (G.group w M t deep v) w' t r v) :
 St w0 (G.group w M t deep v) { F with rows:=(t,r)::F.rows,next:=nx } a w'∧xfg G (G.group w M t deep v):=by
 have hR:=h.rel
 have hG:xfg G (G.group w M t deep v):=⟨fun _ h=>.inl h,(fun j u hj=>by
  show (if j=t then some v else G.row j)=some u
  split
  ·rename_i e;subst e
   rcases hgr with hg | hg
   ·rw [hg] at hj;cases hj
   ·rw [hg] at hj;exact hj
  ·exact hj),fun _ _ h=>h⟩
 have hS:∀x,G.S x→w'.heap[x]? = w.heap[x]? := fun x hx=>hold x (hR.stb x hx).2 (fun e=>by
  obtain ⟨id,h1,_⟩:=hb0 x e
  rw [(hR.stb x hx).1] at h1;cases h1)
 have hkeep:∀x id,G.own x=some id→M id=false→w'.heap[x]? = w.heap[x]? ∧ xcp G w M t deep v x=some id:=by
  intro x id hx hm
  refine ⟨hold x (hR.own x id hx).2 (fun e=>?_),?_⟩
  ·obtain ⟨id',h1,h2⟩:=hb0 x e
   rw [hx] at h1;injection h1 with h1;subst h1;rw [hm] at h2;cases h2
  ·have:=(hR.own x id hx).2
   simp [xcp,Nat.not_le.2 this,hx,hm]
 have hnone:∀x,x<w.heap.size→G.own x=none→xcp G w M t deep v x=none:=by
  intro x hlt hx
  simp [xcp,Nat.not_le.2 hlt,hx]
 have hval:∀x id,xcp G w M t deep v x=some id→(id=t∧(v.ownBlock=some x∨∃j,G.own x=some j))∨G.own x=some id:=by
  intro x id hx
  unfold xcp at hx
  split at hx
  ·split at hx
   ·rename_i hb;injection hx with hx;exact .inl ⟨hx.symm,.inl hb⟩
   ·cases hx
  ·split at hx
   ·rename_i j hj
    split at hx
    ·split at hx
     ·injection hx with hx;exact .inl ⟨hx.symm,.inr ⟨j,hj⟩⟩
     ·cases hx
    ·injection hx with hx;subst hx;exact .inr hj
   ·cases hx
 refine ⟨⟨hR.move ⟨hos.trans hR.below.os,htape.trans hR.below.tape,hout.trans hR.below.output,Nat.le_trans hR.below.size hsz,fun k hk=>?_⟩ hG hS rfl rfl ?_ ?_ ?_ ?_ ?_ ?_ ?_,fun id hi=>?_,fun id r' e=>?_,fun id cs e=>?_,fun id r' cs e e'=>?_⟩,hG⟩
 ·have hlt:=Nat.lt_of_lt_of_le hk hR.below.size
  rw [hold k hlt (fun e=>?_)]
  ·exact hR.below.block k hk
  ·obtain ⟨id,h1,_⟩:=hb0 k e
   have:=(hR.own k id h1).1
   omega
 ·intro k cells b e1 e2
  refine xf7.carry hG hS (fun ho=>hkeep b k ho (hMb k cells e1)) (hR.boxes k cells b e1 e2)
 ·intro id r' u e1 e2
  simp only [xas] at e1
  have e3:(if id=t then some v else G.row id)=some u:=e2
  split at e1
  ·rename_i hi
   subst hi
   rw [if_pos rfl] at e3
   injection e1 with e1
   injection e3 with e3
   subst e1;subst e3
   exact hok
  ·rename_i hi
   have hi':¬id=t:=fun e=>hi e.symm
   rw [if_neg hi'] at e3
   have hm:M id=false:=by
    cases hm:M id with
    | false=>rfl
    | true=>rw [hM id hm hi'] at e1;cases e1
   exact xbk.carry hG.S hS (fun x hx=>hkeep x id hx hm) (hR.rows id r' u e1 e3)
 ·intro x hx
  rcases hx with hx | hx
  ·have:=hR.stb x hx
   exact ⟨hnone x this.2 this.1,Nat.lt_of_lt_of_le this.2 hsz⟩
  ·refine ⟨hx.2,?_⟩
   cases ho:G.own x with
   | none=>exact absurd ho hx.1
   | some j=>exact Nat.lt_of_lt_of_le (hR.own x j ho).2 hsz
 ·intro x id hx
  rcases hval x id hx with ⟨_,h1⟩ | h1
  ·rcases h1 with h1 | ⟨j,h1⟩
   ·obtain ⟨h2,h3⟩:=hvb x h1
    refine ⟨?_,h2⟩
    rcases h3 with h3 | ⟨id',h3,_⟩
    ·exact Nat.le_trans hR.below.size h3
    ·exact (hR.own x id' h3).1
   ·have:=hR.own x j h1;exact ⟨this.1,Nat.lt_of_lt_of_le this.2 hsz⟩
  ·have:=hR.own x id h1;exact ⟨this.1,Nat.lt_of_lt_of_le this.2 hsz⟩
 ·intro id u hx
  have e3:(if id=t then some v else G.row id)=some u:=hx
  split at e3
  ·injection e3 with e3;subst e3;exact hv
  ·exact hR.rowv id u e3
 ·intro x hx
  rcases hx with hx | hx
  ·exact hR.sub x hx
  ·cases ho:G.own x with
   | none=>exact absurd ho hx.1
   | some j=>exact .inr (hR.own x j ho).1
 ·intro x id hx
  rcases hval x id hx with ⟨_,h1⟩ | h1
  ·by_cases h3:v.ownBlock=some x
   ·unfold xbk at hok
    split at hok
    ·rename_i e;exact absurd e hks
    ·obtain ⟨_,rows,xs,N,_,_,_,ho,_⟩:=hok
     exact ho.wr h3
   ·rcases h1 with h1 | ⟨j,h1⟩
    ·exact absurd h1 h3
    ·by_cases hb:b0=some x
     ·exact hbw x hb
     ·exact (hR.wr x j h1).stay (hold x (hR.own x j h1).2 hb)
  ·by_cases hb:b0=some x
   ·exact hbw x hb
   ·exact (hR.wr x id h1).stay (hold x (hR.own x id h1).2 hb)
 ·have hi':nx≤id:=hi
  have hf:=h.free id (by omega)
  refine ⟨?_,hf.2.1,fun x hx=>?_⟩
  ·show (if id=t then some v else G.row id)=none
   rw [if_neg (by omega)];exact hf.1
  ·rcases hval x id hx with ⟨h1,_⟩ | h1
   ·omega
   ·exact hf.2.2 x h1
 ·simp only [xas] at e
  show id<nx
  split at e
  ·omega
  ·have:=h.krow id r' e;omega
 ·have:=h.kbox id cs e
  show id<nx
  omega
 ·simp only [xas] at e
  split at e
  ·rename_i hi;subst hi;rw [ht] at e';cases e'
  ·exact h.kdis id r' cs e e'
theorem xcA (F:Fr) (id i:Nat):lk (xcS F id).rows i=if i=id then none else lk F.rows i:=by
 unfold xcS
 have:∀(l:List (Nat×Row)),lk (l.filter fun x=>x.1 != id) i=if i=id then none else lk l i:=by
  intro l
  induction l with
  | nil=>simp [lk]
  | cons x l ih =>
   obtain ⟨k,r⟩:=x
   by_cases hk:k=id
   ·subst hk
    simp only [bne_self_eq_false,List.filter_cons,ih,xas]
    by_cases hi:i=k
    ·subst hi;simpa using ih
    ·have h9:¬k=i:=fun e=>hi e.symm
     simpa [hi,h9] using ih
   ·have hb:(k != id)=true:=by simpa using hk
    simp only [List.filter_cons,hb,if_true,xas,ih]
    by_cases hi:k=i
    ·subst hi;simp [hk]
    ·simp [hi]
 exact this F.rows
theorem St.drop (h:St w0 G F a w) (id:Nat):St w0 G (xcS F id) a w:=by
 have hR:=h.rel
 have hsub:∀i r,lk (xcS F id).rows i=some r→lk F.rows i=some r:=by
  intro i r e
  rw [xcA] at e
  split at e
  ·cases e
  ·exact e
 exact ⟨⟨hR.below,hR.defers,hR.size,hR.tmps,hR.boxes,fun i r v e1 e2=>hR.rows i r v (hsub i r e1) e2,hR.stb,hR.own,hR.rowv,hR.sub,hR.wr,hR.out⟩,h.free,fun i r e=>h.krow i r (hsub i r e),h.kbox,fun i r c e e'=>h.kdis i r c (hsub i r e) e'⟩
theorem xdK:∀(cs:List Cell) {F:Fr},St w0 G F a w→St w0 G (xbs F cs) a w∧(xbs F cs).tmps=F.tmps∧(xbs F cs).boxes=F.boxes∧(xbs F cs).next=F.next∧(∀id,Cell.own id∈cs→lk (xbs F cs).rows id=none)∧(∀id,Cell.own id∉cs→lk (xbs F cs).rows id=lk F.rows id)∧∀id,lk F.rows id=none→lk (xbs F cs).rows id=none
 | [],F,h=>⟨h,rfl,rfl,rfl,by simp,fun _ _=>rfl,fun _ h=>h⟩
 | c::cs,F,h=>by
  have other:(∀id,c≠.own id)→xbs F (c::cs)=xbs F cs:=by
   intro hc
   cases c<;>first | rfl | exact absurd rfl (hc _)
  by_cases hc:∃id,c=.own id
  ·obtain ⟨id,rfl⟩:=hc
   obtain ⟨h1,h2,h3,h4,h5,h6,h7⟩:=xdK cs (h.drop id)
   refine ⟨h1,h2,h3,h4,fun i hi=>?_,fun i hi=>?_,fun i hi=>h7 i ?_⟩
   ·rcases List.mem_cons.1 hi with e | hi
    ·injection e with e
     subst e
     exact h7 i (by rw [xcA,if_pos rfl])
    ·exact h5 i hi
   ·have hne:i≠id:=fun e=>hi (by rw [e];exact List.mem_cons_self ..)
    have:lk (xbs (xcS F id) cs).rows i=lk (xcS F id).rows i:=h6 i fun hm=>hi (List.mem_cons_of_mem _ hm)
    show lk (xbs (xcS F id) cs).rows i=_
    rw [this,xcA,if_neg hne]
   ·rw [xcA];split
    ·rfl
    ·exact hi
  ·have hne:∀id,c≠.own id:=fun id e=>hc ⟨id,e⟩
   rw [other hne]
   obtain ⟨h1,h2,h3,h4,h5,h6,h7⟩:=xdK cs h
   refine ⟨h1,h2,h3,h4,fun i hi=>?_,fun i hi=>?_,h7⟩
   ·rcases List.mem_cons.1 hi with e | hi
    ·exact absurd e.symm (hne i)
    ·exact h5 i hi
   ·exact h6 i fun hm=>hi (List.mem_cons_of_mem _ hm)
theorem xgO (hR:Rel w0 G F a w) {z c:Cell} {p:PV} {v:Value} (hd:xdu F z c=true) (hf:match (z,c) with | (.pv _,.pv p)=>p.flat=true | _=>True) (hz:(∃q,z=.pv q)∨∃e s,z=.nil e s) (hp:xa5 F c=some p) (hv:xdb G w c v) :
 ∃N,xak w [p] [v] N∧N.Nodup∧∀x∈N,∃id,c=.own id∧G.own x=some id:=by
 rcases hz with ⟨q,rfl⟩ | ⟨e,s,rfl⟩
 ·unfold xdu at hd
  simp only at hd
  split at hd
  ·rename_i p'
   simp only [xa5] at hp
   injection hp with hp
   subst hp
   obtain ⟨N,h1,_⟩:=hv
   have:N=[]:=xak.flat_nil (fun x hx=>by simp at hx;rw [hx];exact hf) h1
   subst this
   exact ⟨[],h1,by simp,by simp⟩
  ·simp only [xa5] at hp
   injection hp with hp
   subst hp
   rename_i b
   have:v=.bool b:=hv
   subst this
   exact ⟨[],.bool .nil,by simp,by simp⟩
  ·cases hd
 ·unfold xdu at hd
  simp only at hd
  split at hd
  ·simp only [xa5] at hp
   injection hp with hp
   subst hp
   have:v=.slice none 0 0:=hv
   subst this
   exact ⟨[],.lnil .nil,by simp,by simp⟩
  ·rename_i id
   split at hd
   ·rename_i r hr
    have hk:r.kind=.deep:=by simpa using hd
    simp only [xa5,hr] at hp
    injection hp with hp
    subst hp
    obtain ⟨hs,rows,xs,N,he,hl,hvv,hown,hb,hkk⟩:=xdj (by rw [hk];intro h;cases h) (hR.rows id r v hr hv)
    rw [if_pos hk] at hkk
    rw [he]
    rcases hown.2 with ⟨rfl,h0⟩ | ⟨g,cap,cur,rfl,_,hh,hn,hm,hc,htk⟩
    ·have:rows=[]:=List.eq_nil_of_length_eq_zero h0
     subst this
     exact ⟨[],.lnil .nil,by simp,by simp⟩
    ·by_cases h0:rows=[]
     ·subst h0;exact ⟨[],.lnil .nil,by simp,by simp⟩
     ·refine ⟨g::(N++[]),.list hs h0 hl hn (fun j u hu=>?_) hvv .nil,?_,fun x hx=>⟨id,rfl,?_⟩⟩
      ·have hlt:j<rows.length*r.sz:=by
        have:=hown.1
        rcases Nat.lt_or_ge j xs.length with h' | h'
        ·omega
        ·simp [List.getElem?_eq_none h'] at hu
       rw [Nat.zero_add,hown.cellAt j hlt]
       exact hu
      ·rw [List.append_nil,List.nodup_cons]
       exact ⟨fun hm=>(hkk.2 g hm).2 rfl,hkk.1⟩
      ·simp only [List.append_nil,List.mem_cons] at hx
       rcases hx with rfl | hx
       ·exact hb _ rfl
       ·exact (hkk.2 x hx).1
   ·cases hd
  ·cases hd
theorem xj7 (hR:Rel w0 G F a w):∀{zs cs:List Cell} {ps:List PV} {vs:List Value} {used:List Nat},(∀z∈zs,(∃q,z=.pv q)∨∃e s,z=.nil e s)→xaP F zs cs used=true→xae zs cs→xaI F cs=some ps→xaN G w cs vs →
 ∃N,xak w ps vs N∧N.Nodup∧∀x∈N,∃id,Cell.own id∈cs∧id∉used∧G.own x=some id
 | [],[],ps,vs,used,_,_,_,hp,hv=>by
  simp only [xaI] at hp;injection hp with hp;subst hp
  have:vs=[]:=hv
  subst this
  exact ⟨[],.nil,by simp,by simp⟩
 | z::zs,c::cs,ps,vs,used,hz,hd,hf,hp,⟨v,r,e,hv1,hv2⟩=>by
  subst e
  simp only [xaI] at hp
  split at hp
  ·rename_i p q e1 e2
   injection hp with hp
   subst hp
   simp only [xaP,Bool.and_eq_true] at hd
   obtain ⟨hd1,hd2⟩:=hd
   have hf1:match (z,c) with | (.pv _,.pv p)=>p.flat=true | _=>True:=hf (z,c) (by simp)
   have hf2:xae zs cs:=fun x hx=>hf x (by simp [hx])
   obtain ⟨N1,k1,k2,k3⟩:=xgO hR hd1 hf1 (hz z (by simp)) e1 hv1
   by_cases hc:∃id,c=.own id
   ·obtain ⟨id,rfl⟩:=hc
    simp only [Bool.and_eq_true,Bool.not_eq_true'] at hd2
    obtain ⟨N2,m1,m2,m3⟩:=xj7 hR (fun z h=>hz z (by simp [h])) hd2.2 hf2 e2 hv2
    refine ⟨N1++N2,k1.cons m1,?_,fun x hx=>?_⟩
    ·rw [List.nodup_append]
     refine ⟨k2,m2,fun x hx y hy hxy=>?_⟩
     subst hxy
     obtain ⟨i1,h1,h2⟩:=k3 x hx
     obtain ⟨i2,h3,h4,h5⟩:=m3 x hy
     injection h1 with h1
     subst h1
     rw [h2] at h5
     injection h5 with h5
     subst h5
     exact h4 (List.mem_cons_self ..)
    ·rcases List.mem_append.1 hx with hx | hx
     ·obtain ⟨i1,h1,h2⟩:=k3 x hx
      injection h1 with h1
      subst h1
      exact ⟨_,List.mem_cons_self ..,by simpa using hd2.1,h2⟩
     ·obtain ⟨i2,h3,h4,h5⟩:=m3 x hx
      exact ⟨i2,List.mem_cons_of_mem _ h3,fun h=>h4 (List.mem_cons_of_mem _ h),h5⟩
   ·have hd3:xaP F zs cs used=true:=by
     cases c<;>first | exact hd2 | exact absurd ⟨_,rfl⟩ hc
    obtain ⟨N2,m1,m2,m3⟩:=xj7 hR (fun z h=>hz z (by simp [h])) hd3 hf2 e2 hv2
    have hN1:N1=[]:=by
     cases N1 with
     | nil=>rfl
     | cons x N1=>obtain ⟨i,h1,_⟩:=k3 x (by simp);exact absurd ⟨i,h1⟩ hc
    subst hN1
    exact ⟨N2,by simpa using k1.cons m1,m2,fun x hx=>by
     obtain ⟨i2,h3,h4,h5⟩:=m3 x hx
     exact ⟨i2,List.mem_cons_of_mem _ h3,h4,h5⟩⟩
  ·cases hp
 | [],_::_,_,_,_,_,hd,_,_,_=>by simp [xaP] at hd
 | _::_,[],_,_,_,_,hd,_,_,_=>by simp [xaP] at hd
theorem xdC:∀{cs:List Cell} {G:Gh} {F:Fr} {ps:List PV} {vs:List Value},St w0 G F a w→xaI F cs=some ps→xaN G w cs vs→∃G',St w0 G' (shareCells F cs) a w∧xfg G G'∧xbp G'.S w ps vs∧(shareCells F cs).boxes=F.boxes∧(shareCells F cs).next=F.next∧(shareCells F cs).nt=F.nt∧(∀x q,G.own x=some q→lk F.rows q=none→G'.own x=some q)∧∀q,lk F.rows q=none→lk (shareCells F cs).rows q=none
 | [],G,F,ps,vs,h,hp,hv=>by
  simp only [xaI] at hp;injection hp with hp;subst hp
  have:vs=[]:=hv
  subst this
  exact ⟨G,h,.refl G,⟨[],.nil,by simp⟩,rfl,rfl,rfl,fun _ _ h _=>h,fun _ h=>h⟩
 | c::cs,G,F,ps,vs,h,hp,⟨v,r,e,hv1,hv2⟩=>by
  subst e
  simp only [xaI] at hp
  split at hp
  ·rename_i p q e1 e2
   injection hp with hp
   subst hp
   by_cases hc:∃id,c=.own id
   ·obtain ⟨id,rfl⟩:=hc
    simp only [xa5] at e1
    split at e1
    ·rename_i row hr
     injection e1 with e1
     subst e1
     obtain ⟨G1,k1,k2,r',k3,k4,k5,_,_,_,kown⟩:=h.share id hr
     have e2':xaI (share F id) cs=some q:=by
      have key:∀(cs:List Cell) (q:List PV),xaI F cs=some q→xaI (share F id) cs=some q:=by
       intro cs
       induction cs with
       | nil=>intro q h;exact h
       | cons c cs ih =>
        intro q hq
        simp only [xaI] at hq ⊢
        split at hq
        ·rename_i p' q' f1 f2
         have:xa5 (share F id) c=some p':=by
          cases c<;>simp only [xa5] at f1 ⊢<;>try exact f1
          rename_i j
          split at f1
          ·rename_i rj hj
           by_cases hij:j=id
           ·subst hij
            rw [hr] at hj
            injection hj with hj
            subst hj
            rw [k3];simp only [k5];exact f1
           ·have:lk (share F id).rows j=lk F.rows j:=by
             unfold share
             rw [hr]
             simp only
             split
             ·rfl
             ·simp only [setRow,xas];rw [if_neg (fun e=>hij e.symm)]
            rw [this,hj];exact f1
          ·cases f1
         rw [this,ih q' f2];exact hq
        ·cases hq
      exact key cs q e2
     obtain ⟨G2,m1,m2,m3,m4,m5,m6,m7,m8⟩:=xdC k1 e2' (xaN.carry k2 (fun _ _=>rfl) hv2)
     obtain ⟨t1,t2,t3,t4⟩:=xdN F id
     have hnone:∀q,lk F.rows q=none→lk (share F id).rows q=none:=by
      intro q hq
      have hqi:¬id=q:=fun e=>by subst e;rw [hr] at hq;cases hq
      unfold share
      rw [hr]
      simp only
      split
      ·exact hq
      ·simp only [setRow,xas];rw [if_neg hqi];exact hq
     refine ⟨G2,m1,k2.trans m2,?_,m4.trans t2,m5.trans t3,m6.trans t4,fun x q hx hq=>m7 x q (kown x q hx fun e=>by subst e;rw [hr] at hq;cases hq) (hnone q hq),fun q hq=>m8 q (hnone q hq)⟩
     have hrow:G1.row id=some v:=k2.row _ _ hv1
     have h2:=k1.rel.rows id r' v k3 hrow
     unfold xbk at h2
     rw [k4,k5] at h2
     obtain ⟨N1,n1,n2⟩:=h2.carry m2.S (fun _ _=>rfl)
     obtain ⟨N2,n3,n4⟩:=m3
     exact ⟨N1++N2,n1.cons n3,fun x hx=>by rcases List.mem_append.1 hx with hx | hx;exact n2 x hx;exact n4 x hx⟩
    ·cases e1
   ·have hsh:shareCells F (c::cs)=shareCells F cs:=by cases c<;>first | rfl | exact absurd ⟨_,rfl⟩ hc
    rw [hsh]
    obtain ⟨G2,m1,m2,m3,m4,m5,m6,m7,m8⟩:=xdC h e2 hv2
    refine ⟨G2,m1,m2,?_,m4,m5,m6,m7,m8⟩
    have:xbp G.S w [p] [v]:=by
     cases c<;>simp only [xa5] at e1<;>first | (cases e1;done) | skip
     ·injection e1 with e1;subst e1;exact hv1
     ·injection e1 with e1;subst e1;have:v=.slice none 0 0:=hv1;subst this;exact ⟨[],.lnil .nil,by simp⟩
     ·exact absurd ⟨_,rfl⟩ hc
     ·injection e1 with e1;subst e1;have:v=.bool _:=hv1;subst this;exact xbp.bool
    obtain ⟨N1,n1,n2⟩:=this.carry m2.S (fun _ _=>rfl)
    obtain ⟨N2,n3,n4⟩:=m3
    exact ⟨N1++N2,n1.cons n3,fun x hx=>by rcases List.mem_append.1 hx with hx | hx;exact n2 x hx;exact n4 x hx⟩
  ·cases hp
end
end Go.Ev
/- A store into a row of the frame's own; a literal. -/
namespace Go.Ev
open Go.RowKit
def xlZ (cs:List Cell) (q:Nat):Bool:=cs.any fun c=>match c with | .own j=>decide (j=q) | _=>false
theorem xeb {cs:List Cell} {q:Nat}:xlZ cs q=true↔Cell.own q∈cs:=by
 unfold xlZ
 rw [List.any_eq_true]
 constructor
 ·rintro ⟨c,hc,h⟩
  split at h
  ·have:_=q:=of_decide_eq_true h
   subst this;exact hc
  ·cases h
 ·intro h;exact ⟨_,h,by simp⟩
section
variable {P : Program} {T : Tab} {o : Oper} {F : Fr} {w0 : Base} {G : Gh} {a : Act} {w : World}
theorem xrb (h:St w0 G F a w) {zs ns:List Cell} {vs:List Value} {zv:List Value} (hz:xcd zs zv) (hrep:xaN G w ns vs) {k:List PV→Bool→Fr→Prop} (hk:xs8 F zs ns k) :
 ∃ps deep F1 G1 N,k ps deep F1∧St w0 G1 F1 a w∧xfg G G1∧xak w ps vs N∧F1.tmps=F.tmps∧F1.boxes=F.boxes∧F1.next=F.next∧F1.nt=F.nt ∧
  ((deep=true∧N.Nodup∧(∀x∈N,∃q,Cell.own q∈ns∧G1.own x=some q)∧(∀q,Cell.own q∈ns→lk F1.rows q=none∧∃r,lk F.rows q=some r))∨(deep=false∧∀x∈N,G1.S x)) ∧
  (∀x q,G.own x=some q→lk F.rows q=none→G1.own x=some q)∧∀q,lk F.rows q=none→lk F1.rows q=none:=by
 unfold xs8 at hk
 split at hk
 ·rename_i ps hps
  split at hk
  ·rename_i hd
   obtain ⟨N,n1,n2,n3⟩:=xj7 h.rel (xfi hz) hd hk.1 hps hrep
   obtain ⟨g1,g2,g3,g4,g5,g6,g7⟩:=xdK ns h
   have g8:∀(cs:List Cell) (F:Fr),(xbs F cs).nt=F.nt:=by
    intro cs
    induction cs with
    | nil=>intro F;rfl
    | cons c cs ih=>intro F;cases c<;>first | exact ih _ | exact (ih _).trans rfl
   refine ⟨ps,true,xbs F ns,G,N,hk.2,g1,.refl G,n1,g2,g3,g4,g8 _ _,.inl ⟨rfl,n2,fun x hx=>?_,fun q hq=>⟨g5 q hq,?_⟩⟩,fun _ _ h _=>h,g7⟩
   ·obtain ⟨id,m1,_,m2⟩:=n3 x hx;exact ⟨id,m1,m2⟩
   ·have key:∀(cs:List Cell) (ps:List PV),xaI F cs=some ps→Cell.own q∈cs→∃r,lk F.rows q=some r:=by
     intro cs
     induction cs with
     | nil=>intro ps _ hm;cases hm
     | cons c cs ih =>
      intro ps hp hm
      simp only [xaI] at hp
      split at hp
      ·rename_i p q' e1 e2
       rcases List.mem_cons.1 hm with e | hm
       ·subst e
        simp only [xa5] at e1
        split at e1
        ·exact ⟨_,by assumption⟩
        ·cases e1
       ·exact ih _ e2 hm
      ·cases hp
    exact key ns ps hps hq
  ·obtain ⟨G1,m1,m2,⟨N,m3,m4⟩,m5,m6,m7,m8,m9⟩:=xdC h hps hrep
   exact ⟨ps,false,shareCells F ns,G1,N,hk,m1,m2,m3,xaT _ _,m5,m6,m7,.inr ⟨rfl,m4⟩,m8,m9⟩
 ·exact hk.elim
theorem cut3 {α:Type} (A q B:List α) (off l:Nat) (h:off+l≤q.length):(A++(q++B)).take (A.length+off)=A++q.take off∧(A++(q++B)).drop (A.length+off+l)=q.drop (off+l)++B:=by
 constructor
 ·rw [List.take_length_add_append,List.take_append_of_le_length (by omega)]
 ·rw [Nat.add_assoc,List.drop_length_add_append,List.drop_append_of_le_length h]
theorem xl6 {rows:List (List PV)} {sz:Nat} (hl:∀q∈rows,q.length=sz) {j off:Nat} {q ps:List PV} (hj:rows[j]? = some q) (hoff:off+ps.length≤q.length) :
 (rows.set j (over q off ps)).flatten=rows.flatten.take (j*sz+off)++ps++rows.flatten.drop (j*sz+off+ps.length)∧∀r∈rows.set j (over q off ps),r.length=sz:=by
 obtain ⟨e1,e2⟩:=xeU hl hj
 have hq:q.length=sz:=hl q (List.mem_of_getElem? hj)
 have hjl:j<rows.length:=by
  rcases Nat.lt_or_ge j rows.length with h' | h'
  ·exact h'
  ·simp [List.getElem?_eq_none h'] at hj
 have hov:(over q off ps).length=sz:=by simp [over];omega
 have hl2:∀r∈rows.set j (over q off ps),r.length=sz:=by
  intro r hr
  rcases List.mem_or_eq_of_mem_set hr with h | h
  ·exact hl r h
  ·rw [h];exact hov
 refine ⟨?_,hl2⟩
 have hj2:(rows.set j (over q off ps))[j]? = some (over q off ps):=by simp [hjl]
 obtain ⟨e3,e4⟩:=xeU hl2 hj2
 rw [e3,e1]
 have t1:(rows.set j (over q off ps)).take j=rows.take j:=by rw [List.take_set_of_le (Nat.le_refl _)]
 have t2:(rows.set j (over q off ps)).drop (j+1)=rows.drop (j+1):=by rw [List.drop_set_of_lt (by omega)]
 rw [t1,t2]
 obtain ⟨c1,c2⟩:=cut3 (rows.take j).flatten q (rows.drop (j+1)).flatten off ps.length hoff
 rw [e2] at c1 c2
 rw [c1,c2]
 simp [over,List.append_assoc]
theorem xnl {α:Type} (l vs:List α) (o n:Nat) (h:o+vs.length≤n) (hn:n≤l.length):(l.take o++vs++l.drop (o+vs.length)).take n=(l.take n).take o++vs++(l.take n).drop (o+vs.length):=by
 rw [List.append_assoc,List.take_append,List.length_take,Nat.min_eq_left (by omega),List.take_of_length_le (l:=l.take o) (by rw [List.length_take];omega),List.take_append]
 rw [List.take_of_length_le (l:=vs) (by omega),List.take_take,Nat.min_eq_left (by omega),List.drop_take,List.append_assoc]
 congr 3
 omega
theorem xnm {t:TypeId} {x y:Operand} {i:TI} {id sz j off:Nat} {v:TV} {ns:List Cell} {k:Fr→Prop} (hT:xaz P T) (h:St w0 G F a w) (hop:o.op=.store t x y) (hi:lk T.ti t=some i) (ex:opnd T F 0 x=some (.one (.optr id sz j off))) (ey:opnd T F t y=some v)
 (hn:xdy v=some ns) (hl:ns.length=i.size) (hne:Cell.own id∉ns)
 (hk:xs8 F i.zero ns fun ps deep F=>match lk F.rows id with
  | some r=>if r.kind≠.shared∧r.sz=sz then xmu r.e j off ps fun e=>k (put (setRow F id { r with kind:=r.kind.with deep,e:=e }) o.dst .undef) else False
  | none=>False) {K:Act→World→Prop} {Q:Exit→Act→World→Prop}
 (hK:∀G' F' a' w',St w0 G' F' a' w'→k F'→K a' w'):o.wp P a w K Q:=by
 obtain ⟨b,n,cap,hrow,hx⟩:=h.rel.eval T 0 x _ ex
 obtain ⟨vs,hv,hvr⟩:=xg2 h.rel (h.rel.eval T t y _ ey) hn
 obtain ⟨zz,hz0,hz⟩:=xe7 (hT.ty t i hi) w
 have hone:=xaN.one h.rel hvr
 have lns:=hvr.len
 obtain ⟨ps,deep,F1,G1,N,hk1,hS1,hG1,hps,q1,q2,q3,q4,hcase,_,_⟩:=xrb h hz hvr hk
 split at hk1
 ·rename_i r hr
  split at hk1
  ·rename_i hc
   obtain ⟨hkind,hrsz⟩:=hc
   have hrow1:G1.row id=some (.slice (some ⟨b,0,none⟩) n cap):=hG1.row _ _ hrow
   obtain ⟨hs0,rows,xs,N0,he,hlr,hvv,hown,hbo,hkk⟩:=xdj hkind (hS1.rel.rows id r _ hr hrow1)
   unfold xmu at hk1
   rw [he] at hk1
   simp only at hk1
   split at hk1
   ·rename_i q hq
    obtain ⟨hoff,hk2⟩:=hk1
    rw [hrsz] at hlr hs0 hown he
    have hpl:ps.length=vs.length:=hps.len
    have hql:q.length=sz:=hlr q (List.mem_of_getElem? hq)
    obtain ⟨hfl,hlr2⟩:=xl6 hlr hq hoff
    have hjl:j<rows.length:=by
     rcases Nat.lt_or_ge j rows.length with h' | h'
     ·exact h'
     ·simp [List.getElem?_eq_none h'] at hq
    have hmul:j*sz+sz≤rows.length*sz:=by
     have:=Nat.mul_le_mul_right sz hjl
     rwa [Nat.succ_mul] at this
    have hob:G1.own b=some id:=hbo b rfl
    rcases hown.2 with ⟨hnil,_⟩ | ⟨g,cap',cur,hvg,_,hh,hnc,hcm,hcs,htk⟩
    ·cases hnil
    ·injection hvg with hg1 hg2 hg3
     injection hg1 with hg1
     injection hg1 with hg1
     subst hg1;subst hg2;subst hg3
     have hcur:rows.length*sz≤cur.size:=by rw [hcs];exact Nat.mul_le_mul_right _ hnc
     have hst:=run_storeCells_at P b (j*sz+off) r.elem vs 0 cur w hh (by omega) hone
     let cur':Array Value:=(cur.toList.take (j*sz+off)++vs++cur.toList.drop (j*sz+off+vs.length)).toArray
     have hrun:(execOp a.eval o).run P w=.ok .skip (w.setRow b cur'):=by
      simp only [execOp,hop,Instr.storeAt,hx,Instr.sureAddr,storeVar]
      have hsz:¬(a.eval y).cells.size≠i.size:=by rw [hv];simp;omega
      simp only [Sem.run_bind,Sem.run_pure,Result.andThen_ok,xa3 (hT.ty t i hi),Sem.run_ite,if_neg hsz]
      rw [hv]
      have hst':(storeCells ⟨b,j*sz+off,none⟩ vs 0).run P w=.ok () (w.setRow b cur'):=by simpa [cur'] using hst
      simp only [List.toList_toArray,hst']
      rfl
     have hsp:rows.flatten=rows.flatten.take (j*sz+off)++((rows.flatten.drop (j*sz+off)).take ps.length++rows.flatten.drop (j*sz+off+ps.length)):=by
      have hdd:rows.flatten.drop (j*sz+off+ps.length)=(rows.flatten.drop (j*sz+off)).drop ps.length:=(List.drop_drop ..).symm
      rw [hdd,List.take_append_drop,List.take_append_drop]
     have hvv':=hvv
     rw [hsp] at hvv'
     obtain ⟨v1,v23,N1,N23,hx1,hN1,k1,k23⟩:=xak.split _ _ hvv'
     obtain ⟨v2,v3,N2,N3,hx2,hN2,k2,k3⟩:=xak.split _ _ k23
     subst hx2;subst hN2
     have hfll:rows.flatten.length=rows.length*sz:=xcx hlr
     have l1:v1.length=j*sz+off:=by rw [←k1.len,List.length_take];omega
     have l2:v2.length=vs.length:=by rw [←k2.len,List.length_take,List.length_drop];omega
     have e1:xs.take (j*sz+off)=v1:=by rw [hx1,←l1,List.take_left]
     have e3:xs.drop (j*sz+off+vs.length)=v3:=by
      rw [hx1,←l1,←l2,←List.drop_drop,List.drop_left,List.drop_left]
     let M:Nat→Bool:=fun q=>(deep&&xlZ ns q)||decide (q=id)
     let dk:Bool:=decide (r.kind.with deep=.deep)
     have hMid:M id=true:=by simp [M]
     have hnS:∀x,G1.S x→x≠b:=fun x hxs e=>by rw [e] at hxs;have:=(hS1.rel.stb b hxs).1;rw [hob] at this;cases this
     have hkd':r.kind.with deep≠.shared:=by
      cases hkk2:r.kind<;>cases deep<;>simp [RK.with,hkk2] at hkind ⊢
     have hN0:∀x∈N0,x≠b∧x<w.heap.size∧((G1.own x=some id∧r.kind=.deep)∨(G1.S x∧r.kind≠.deep)):=by
      intro x hx
      by_cases hd:r.kind=.deep
      ·rw [if_pos hd] at hkk
       obtain ⟨m1,m2⟩:=hkk.2 x hx
       exact ⟨fun e=>m2 (by rw [e];rfl),(hS1.rel.own x id m1).2,.inl ⟨m1,hd⟩⟩
      ·rw [if_neg hd] at hkk
       have:=hkk x hx
       exact ⟨hnS x this,(hS1.rel.stb x this).2,.inr ⟨this,hd⟩⟩
     have hNp:∀x∈N,x≠b∧x<w.heap.size∧((deep=true∧∃q,Cell.own q∈ns∧G1.own x=some q)∨(deep=false∧G1.S x)):=by
      intro x hx
      rcases hcase with ⟨hd,_,m1,_⟩ | ⟨hd,m1⟩
      ·obtain ⟨q',m2,m3⟩:=m1 x hx
       refine ⟨fun e=>?_,(hS1.rel.own x q' m3).2,.inl ⟨hd,q',m2,m3⟩⟩
       subst e
       rw [hob] at m3
       injection m3 with m3
       subst m3
       exact hne m2
      ·have:=m1 x hx
       exact ⟨hnS x this,(hS1.rel.stb x this).2,.inr ⟨hd,this⟩⟩
     have hheap:∀x,x≠b→(w.setRow b cur').heap[x]? = w.heap[x]? := fun x hx=>setRow_other w b x _ hx
     have hmemN:∀x,x∈N1++(N++N3)→(x∈N0∨x∈N):=by
      intro x hx
      rw [hN1]
      simp only [List.mem_append] at hx ⊢
      rcases hx with hx | hx | hx
      ·exact .inl (.inl hx)
      ·exact .inr hx
      ·exact .inl (.inr (.inr hx))
     have hrep:xak (w.setRow b cur') (rows.flatten.take (j*sz+off)++(ps++rows.flatten.drop (j*sz+off+ps.length))) (v1++(vs++v3)) (N1++(N++N3)):=by
      refine (k1.append (hps.append k3)).stable fun x hx=>hheap x ?_
      rcases hmemN x hx with hx | hx
      ·exact (hN0 x hx).1
      ·exact (hNp x hx).1
     have hgO:∀x q',x<w.heap.size→G1.own x=some q'→M q'=true→x≠b→xcp G1 w M id dk (.slice (some ⟨b,0,none⟩) rows.length cap) x=if dk=true then some id else none:=by
      intro x q' hlt ho hm hxb
      have hvb:¬(Value.slice (some ⟨b,0,none⟩) rows.length cap).ownBlock=some x:=by simp [Value.ownBlock];exact fun e=>hxb e.symm
      simp only [xcp,Nat.not_le.2 hlt,if_false,ho,hm,if_true,hvb,or_false]
     have hok:xbk (G1.group w M id dk (.slice (some ⟨b,0,none⟩) rows.length cap)) (w.setRow b cur') id { r with kind:=r.kind.with deep,e:=.list sz (rows.set j (over q off ps)) } (.slice (some ⟨b,0,none⟩) rows.length cap):=by
      refine xdQ hkd' ⟨by rw [hrsz];exact hs0,rows.set j (over q off ps),v1++(vs++v3),N1++(N++N3),by rw [hrsz],by rw [hrsz];exact hlr2,by rw [hfl,List.append_assoc];exact hrep,?_,fun b' hb'=>?_,?_⟩
      ·rw [List.length_set]
       refine ⟨?_,.inr ⟨b,cap,cur',rfl,Nat.zero_le _,setRow_heap w b cur _ r.elem _ hh,hnc,hcm,?_,?_⟩⟩
       ·have:=hown.1
        rw [hx1] at this
        simp only [List.length_append] at this ⊢
        rw [hrsz]
        omega
       ·simp only [cur',List.size_toArray,List.length_append,List.length_take,List.length_drop,Array.length_toList]
        rw [hrsz]
        omega
       ·rw [hrsz]
        show (cur.toList.take (j*sz+off)++vs++cur.toList.drop (j*sz+off+vs.length)).take (rows.length*sz)=_
        rw [xnl _ _ _ _ (by omega) (by simpa using hcur),htk,e1,e3,List.append_assoc]
      ·have:b=b':=by simpa [Value.ownBlock] using hb'
       subst this
       have hlt:=(hS1.rel.own b id hob).2
       show xcp G1 w M id dk _ b=some id
       simp [xcp,Nat.not_le.2 hlt,hob,hMid,Value.ownBlock]
      ·by_cases hdk:r.kind.with deep=.deep
       ·have hdkt:dk=true:=by simp [dk,hdk]
        have hrd:r.kind=.deep∧deep=true:=by
         cases hkk2:r.kind<;>cases deep<;>simp [RK.with,hkk2] at hdk ⊢
        simp only [hdk,if_true]
        rw [if_pos hrd.1] at hkk
        have hNn:N.Nodup:=by
         rcases hcase with ⟨_,m,_⟩ | ⟨hd,_⟩
         ·exact m
         ·rw [hrd.2] at hd;cases hd
        have hN0n:=hkk.1
        rw [hN1] at hN0n
        refine ⟨?_,fun x hx=>?_⟩
        ·simp only [List.nodup_append] at hN0n ⊢
         obtain ⟨a1,⟨a2,a3,a4⟩,a5⟩:=hN0n
         have hdisj:∀x∈N,∀y,y∈N0→x≠y:=by
          intro x hx y hy e
          subst e
          have h1:=(hN0 x hy).2.2
          have h2:=(hNp x hx).2.2
          rcases h1 with ⟨h1,_⟩ | ⟨_,h1⟩
          ·rcases h2 with ⟨_,q',h3,h4⟩ | ⟨h2,_⟩
           ·rw [h1] at h4;injection h4 with h4;subst h4;exact hne h3
           ·rw [hrd.2] at h2;cases h2
          ·exact h1 hrd.1
         refine ⟨a1,⟨hNn,a3,fun x hx y hy=>hdisj x hx y (by rw [hN1];simp [hy])⟩,fun x hx y hy=>?_⟩
         rcases List.mem_append.1 hy with hy | hy
         ·exact fun e=>hdisj y hy x (by rw [hN1];simp [hx]) e.symm
         ·exact a5 x hx y (by simp [hy])
        ·rcases hmemN x hx with hx | hx
         ·obtain ⟨m1,m2,m3⟩:=hN0 x hx
          rcases m3 with ⟨m3,_⟩ | ⟨_,m3⟩
          ·refine ⟨?_,by simp [Value.ownBlock];exact fun e=>m1 e.symm⟩
           show xcp G1 w M id dk _ x=some id
           rw [hgO x id m2 m3 hMid m1,if_pos hdkt]
          ·exact absurd hrd.1 m3
         ·obtain ⟨m1,m2,m3⟩:=hNp x hx
          rcases m3 with ⟨_,q',m3,m4⟩ | ⟨m3,_⟩
          ·refine ⟨?_,by simp [Value.ownBlock];exact fun e=>m1 e.symm⟩
           show xcp G1 w M id dk _ x=some id
           rw [hgO x q' m2 m4 (by simp [M,hrd.2,xeb.2 m3]) m1,if_pos hdkt]
          ·rw [hrd.2] at m3;cases m3
       ·have hdkf:dk=false:=by simp [dk,hdk]
        simp only [hdk,if_false]
        intro x hx
        rcases hmemN x hx with hx | hx
        ·obtain ⟨m1,m2,m3⟩:=hN0 x hx
         rcases m3 with ⟨m3,_⟩ | ⟨m3,_⟩
         ·refine .inr ⟨by rw [m3];simp,?_⟩
          show xcp G1 w M id dk _ x=none
          rw [hgO x id m2 m3 hMid m1,hdkf];rfl
         ·exact .inl m3
        ·obtain ⟨m1,m2,m3⟩:=hNp x hx
         rcases m3 with ⟨hd,q',m3,m4⟩ | ⟨_,m3⟩
         ·refine .inr ⟨by rw [m4];simp,?_⟩
          show xcp G1 w M id dk _ x=none
          rw [hgO x q' m2 m4 (by simp [M,hd,xeb.2 m3]) m1,hdkf];rfl
         ·exact .inl m3
     have hlt:id<F1.next:=hS1.krow id r hr
     have hMrow:∀q',M q'=true→q'≠id→lk F1.rows q'=none:=by
      intro q' hm hqi
      simp only [M,Bool.or_eq_true,Bool.and_eq_true,decide_eq_true_eq] at hm
      rcases hm with ⟨hd,hm⟩ | hm
      ·rcases hcase with ⟨_,_,_,m⟩ | ⟨hd',_⟩
       ·exact (m q' (xeb.1 hm)).1
       ·rw [hd] at hd';cases hd'
      ·exact absurd hm hqi
     have hMbox:∀k' cs,lk F1.boxes k'=some cs→M k'=false:=by
      intro k' cs hb
      cases hm:M k' with
      | false=>rfl
      | true =>
       simp only [M,Bool.or_eq_true,Bool.and_eq_true,decide_eq_true_eq] at hm
       rcases hm with ⟨hd,hm⟩ | hm
       ·rcases hcase with ⟨_,_,_,m⟩ | ⟨hd',_⟩
        ·obtain ⟨_,r0,h0⟩:=m k' (xeb.1 hm)
         exact (h.kdis k' r0 cs h0 (by rw [←q2];exact hb)).elim
        ·rw [hd] at hd';cases hd'
       ·subst hm;exact (hS1.kdis _ r cs hr hb).elim
     have hbox:lk F1.boxes id=none:=by
      cases hb:lk F1.boxes id with
      | none=>rfl
      | some cs=>exact (hS1.kdis id r cs hr hb).elim
     obtain ⟨hfin,_⟩:=hS1.group (M:=M) (t:=id) (nx:=F1.next) (deep:=dk) (v:=.slice (some ⟨b,0,none⟩) rows.length cap) (r:={ r with kind:=r.kind.with deep,e:=.list sz (rows.set j (over q off ps)) }) (w':=w.setRow b cur') rfl rfl rfl (by rw [size_setRow];exact Nat.le_refl _) (some b) (fun b' e=>by injection e with e;subst e;exact ⟨id,hob,hMid⟩)
      (fun x _ hx=>hheap x (fun e=>hx (by rw [e]))) hMrow hMbox hbox (Nat.le_refl _) hlt (.inr hrow1) (.inr hMid) ⟨_,_,_,rfl⟩ (fun b' hb'=>by
       have:b=b':=by simpa [Value.ownBlock] using hb'
       subst this
       rw [size_setRow]
       exact ⟨(hS1.rel.own b id hob).2,.inr ⟨id,hob,hMid⟩⟩) (fun b' e=>by injection e with e;subst e;exact ⟨_,_,setRow_heap w b _ _ _ _ hh⟩) hkd' hok
     exact xf9 hrun (hK _ _ _ _ (St.put hfin o.dst (tv:=.undef) (fun b hb=>by cases hb)) (by rw [←hrsz];exact hk2))
   ·exact hk1.elim
  ·exact hk1.elim
 ·exact hk1.elim
end
end Go.Ev
/- A literal: its elements laid one behind the other into a new row. -/
namespace Go.Ev
open Go.RowKit
section
variable {P : Program} {T : Tab} {o : Oper} {F : Fr} {w0 : Base} {G : Gh} {a : Act} {w : World}
theorem xmr.carry {G G':Gh} (hG:xfg G G'):∀{ps:List (Nat×List Cell)} {vl:List (Nat×Value)},xmr G w ps vl→xmr G' w ps vl
 | [],_,h=>h
 | (i,cs)::r,_,⟨v,q,vs,e,h1,h2,h3⟩=>⟨v,q,vs,e,h1,xaN.carry hG (fun _ _=>rfl) h2,xmr.carry hG h3⟩
theorem xmr.len:∀{ps:List (Nat×List Cell)} {vl:List (Nat×Value)},xmr G w ps vl→vl.length=ps.length
 | [],_,h=>by have:=h;subst this;rfl
 | (i,cs)::r,_,⟨v,q,vs,e,h1,h2,h3⟩=>by subst e;simp [xmr.len h3]
theorem xkI {zs:List Cell} {zv:List Value} (hz:xcd zs zv):∀{ps:List (Nat×List Cell)} {j:Nat} {vl:List (Nat×Value)} {G:Gh} {F:Fr} {k:List (List PV)→Bool→Fr→Prop},St w0 G F a w→xmr G w ps vl→xgn F zs j ps k →
 ∃(rows:List (List PV)) (deep:Bool) (F1:Fr) (G1:Gh) (N:List Nat) (cells:List Value) (D:List Nat),k rows deep F1∧St w0 G1 F1 a w∧xfg G G1∧Dense zs.length j vl cells∧xak w rows.flatten cells N∧(∀q∈rows,q.length=zs.length)∧rows.length=ps.length ∧
  F1.tmps=F.tmps∧F1.boxes=F.boxes∧F1.next=F.next∧F1.nt=F.nt∧(deep=true→N.Nodup)∧(∀x∈N,(∃q∈D,G1.own x=some q)∨(deep=false∧G1.S x))∧(∀q∈D,lk F1.rows q=none∧∃r,lk F.rows q=some r) ∧
  (∀x q,G.own x=some q→lk F.rows q=none→G1.own x=some q)∧∀q,lk F.rows q=none→lk F1.rows q=none
 | [],j,vl,G,F,k,hS,hv,hk=>by
  have:vl=[]:=hv
  subst this
  exact ⟨[],true,F,G,[],[],[],hk,hS,.refl G,rfl,.nil,by simp,rfl,rfl,rfl,rfl,rfl,by simp,by simp,by simp,fun _ _ h _=>h,fun _ h=>h⟩
 | (i,cs)::r,j,vl,G,F,k,hS,⟨v,q,vs,e,h1,h2,h3⟩,hk=>by
  subst e
  obtain ⟨hij,hlen,hk⟩:=hk
  obtain ⟨ps,d1,F1,G1,N1,hk1,hS1,hG1,hps,q1,q2,q3,q4,hcase,hown1,hnone1⟩:=xrb hS hz h2 hk
  obtain ⟨rows,d2,F2,G2,N2,cells,D,m1,m2,m3,m4,m5,m6,m7,m8,m9,m10,m11,m12,m13,m14,m15,m16⟩:=xkI hz hS1 (xmr.carry hG1 h3) hk1
  have hvl:vs.length=zs.length:=by rw [←h2.len,hlen]
  have hpsl:ps.length=zs.length:=by rw [hps.len,hvl]
  let D1:List Nat:=if d1=true then cs.filterMap fun c=>match c with | .own q=>some q | _=>none else []
  have hD1:∀q,q∈D1→d1=true∧Cell.own q∈cs:=by
   intro q hq
   by_cases hd:d1=true
   ·simp only [D1,hd,if_true,List.mem_filterMap] at hq
    obtain ⟨c,hc,he⟩:=hq
    refine ⟨hd,?_⟩
    split at he
    ·injection he with he;subst he;exact hc
    ·cases he
   ·simp only [D1] at hq;rw [if_neg hd] at hq;cases hq
  have hD1':∀q,d1=true→Cell.own q∈cs→q∈D1:=by
   intro q hd hq
   simp only [D1,hd,if_true,List.mem_filterMap]
   exact ⟨_,hq,rfl⟩
  have hN1:∀x∈N1,(∃q∈D1,G1.own x=some q∧G2.own x=some q)∨(d1=false∧G2.S x):=by
   intro x hx
   rcases hcase with ⟨hd,_,c1,c2⟩ | ⟨hd,c1⟩
   ·obtain ⟨q,c3,c4⟩:=c1 x hx
    exact .inl ⟨q,hD1' q hd c3,c4,m15 x q c4 (c2 q c3).1⟩
   ·exact .inr ⟨hd,m3.S x (c1 x hx)⟩
  have hD1r:∀q∈D1,lk F1.rows q=none∧∃r,lk F.rows q=some r:=by
   intro q hq
   obtain ⟨hd,hc⟩:=hD1 q hq
   rcases hcase with ⟨_,_,_,c2⟩ | ⟨hd',_⟩
   ·exact c2 q hc
   ·rw [hd] at hd';cases hd'
  refine ⟨ps::rows,d1&&d2,F2,G2,N1++N2,vs++cells,D1++D,m1,m2,hG1.trans m3,⟨vs,cells,hij,h1,hvl,rfl,m4⟩,?_,?_,by simp [m7],m8.trans q1,m9.trans q2,m10.trans q3,m11.trans q4,?_,?_,?_,fun x q' hx hq=>m15 x q' (hown1 x q' hx hq) (hnone1 q' hq),fun q' hq=>m16 q' (hnone1 q' hq)⟩
  ·rw [List.flatten_cons];exact hps.append m5
  ·intro q' hq'
   rcases List.mem_cons.1 hq' with rfl | hq'
   ·exact hpsl
   ·exact m6 q' hq'
  ·intro hd
   simp only [Bool.and_eq_true] at hd
   rw [List.nodup_append]
   refine ⟨?_,m12 hd.2,fun x hx y hy hxy=>?_⟩
   ·rcases hcase with ⟨_,c,_⟩ | ⟨hd',_⟩
    ·exact c
    ·rw [hd.1] at hd';cases hd'
   ·subst hxy
    rcases hN1 x hx with ⟨q',c1,_,c3⟩ | ⟨c1,_⟩
    ·rcases m13 x hy with ⟨q2',c4,c5⟩ | ⟨c4,_⟩
     ·rw [c3] at c5
      injection c5 with c5
      subst c5
      obtain ⟨_,r0,c6⟩:=m14 q' c4
      rw [(hD1r q' c1).1] at c6
      cases c6
     ·rw [hd.2] at c4;cases c4
    ·rw [hd.1] at c1;cases c1
  ·intro x hx
   rcases List.mem_append.1 hx with hx | hx
   ·rcases hN1 x hx with ⟨q',c1,_,c3⟩ | ⟨c1,c2⟩
    ·exact .inl ⟨q',by simp [c1],c3⟩
    ·exact .inr ⟨by simp [c1],c2⟩
   ·rcases m13 x hx with ⟨q',c1,c3⟩ | ⟨c1,c2⟩
    ·exact .inl ⟨q',by simp [c1],c3⟩
    ·exact .inr ⟨by simp [c1],c2⟩
  ·intro q' hq'
   rcases List.mem_append.1 hq' with hq' | hq'
   ·obtain ⟨c1,c2⟩:=hD1r q' hq'
    exact ⟨m16 q' c1,c2⟩
   ·obtain ⟨c1,r0,c2⟩:=m14 q' hq'
    refine ⟨c1,?_⟩
    cases hF:lk F.rows q' with
    | some r1=>exact ⟨r1,rfl⟩
    | none=>rw [hnone1 q' hF] at c2;cases c2
theorem xiy {t:TypeId} {n:Nat} {parts:Array (Nat×Operand)} {i e:TI} {ps:List (Nat×List Cell)} {ty:Nat→TypeId} {k:Fr→Prop} (hT:xaz P T) (h:St w0 G F a w) (hop:o.op=.buildSlice t n parts) (hi:lk T.ti t=some i) (he:lk T.ti i.elem=some e)
 (hps:xdR T F ty parts.toList=some ps) (hpl:ps.length=n) (hbig:n*e.size≤16777216) (hzl:e.zero.length=e.size)
 (hk:xgn F e.zero 0 ps fun rows deep F=>k (put (newRow F ⟨if deep then .deep else .flat,i.elem,e.size,.list e.size rows⟩) o.dst (.one (.own F.next)))) {K:Act→World→Prop} {Q:Exit→Act→World→Prop}
 (hK:∀G' F' a' w',St w0 G' F' a' w'→k F'→K a' w'):o.wp P a w K Q:=by
 have hpr:=xeP h.rel hps
 have he0:i.elem≠0:=by intro h;rw [h,hT.zero] at he;cases he
 have hty:=hT.ty _ _ he
 obtain ⟨inf,e1,e2,e3,z,e4,e5⟩:=hty.info
 obtain ⟨rows,deep,F1,G1,N,cells,D,m1,hS1,hG1,m4,m5,m6,m7,m8,m9,m10,m11,m12,m13,m14,m15,m16⟩:=xkI e5 h hpr hk
 have hvl:=xmr.len hpr
 rw [hzl] at m4 m6
 have hcl:=xib m4
 rw [hvl,hpl] at hcl
 have hsz:=hty.size
 have hrun:(Instr.buildSlice t n (parts.map fun x=>(x.1,a.eval x.2))).run P w=.ok (.slice (some ⟨w.heap.size,0,none⟩) n n) (w.alloc (.cells cells.toArray i.elem)):=by
  by_cases hn0:n=0
  ·subst hn0
   have hp0:parts=#[]:=by
    have:ps=[]:=List.eq_nil_of_length_eq_zero hpl
    subst this
    have h1:(parts.toList.map fun x=>(x.1,a.eval x.2))=[]:=hpr
    have h2:parts.toList=[]:=List.map_eq_nil_iff.1 h1
    exact Array.toList_eq_nil_iff.1 h2
   have hc0:cells=[]:=List.eq_nil_of_length_eq_zero (by simpa using hcl)
   subst hp0;subst hc0
   simp [Instr.buildSlice,run_underlying ((hT.ty t i hi).slice he0),xa3 hty,Instr.fill,Go.newRow,Array.range_zero']
  ·refine Go.run_buildSlice w t i.elem n _ cells.toArray inf z ((hT.ty t i hi).slice he0) e1 e4 (by rw [e2];omega) (by rw [e2];exact Nat.ne_of_gt (Nat.mul_pos (Nat.pos_of_ne_zero hn0) hsz)) ?_
   rw [e2]
   have hacc:=xfv (acc:=((Array.range (n*e.size)).map (z.cells[· % z.cells.size]!)).toList) m4 (by simp [hvl,hpl])
   simp only [Nat.zero_mul,List.take_zero,List.nil_append,Array.toArray_toList] at hacc
   rw [←hacc]
   congr 1
   simp
 have hrl:rows.length=n:=by rw [m7,hpl]
 let kd:RK:=if deep then .deep else .flat
 let M:Nat→Bool:=fun q=>D.contains q
 have hM:∀q,M q=true↔q∈D:=fun q=>by simp [M]
 let v:Value:=.slice (some ⟨w.heap.size,0,none⟩) n n
 have hownM:∀x q,G1.own x=some q→q∈D→xcp G1 w M F1.next deep v x=if deep=true then some F1.next else none:=by
  intro x q hx hq
  have hlt:=(hS1.rel.own x q hx).2
  have hvb:¬v.ownBlock=some x:=by simp [v,Value.ownBlock];omega
  simp [xcp,Nat.not_le.2 hlt,hx,(hM q).2 hq,hvb]
 have hok:xbk (G1.group w M F1.next deep v) (w.alloc (.cells cells.toArray i.elem)) F1.next ⟨kd,i.elem,e.size,.list e.size rows⟩ v:=by
  have hkd:kd≠.shared:=by cases deep<;>simp [kd]
  refine xdQ hkd ⟨hsz,rows,cells,N,rfl,m6,m5.stable (fun x hx=>heap_alloc_old w _ x (m5.bound x hx)),?_,fun b hb=>?_,?_⟩
  ·rw [hrl]
   have:=World.ownsRow_lit (base:=0) (e:=i.elem) (size:=e.size) w cells.toArray n (Nat.zero_le _) (by simp [maxLen];have:=Nat.le_mul_of_pos_right n hsz;omega) (by simpa using hcl)
   simpa using this
  ·have:w.heap.size=b:=by simpa [v,Value.ownBlock] using hb
   subst this
   show xcp G1 w M F1.next deep v w.heap.size=some F1.next
   simp [xcp,v,Value.ownBlock]
  ·cases deep with
   | true =>
    simp only [kd,if_true]
    refine ⟨m12 rfl,fun x hx=>?_⟩
    rcases m13 x hx with ⟨q,c1,c2⟩ | ⟨c1,_⟩
    ·refine ⟨(hownM x q c2 c1).trans (if_pos rfl),?_⟩
     have hlt:=(hS1.rel.own x q c2).2
     simp [v,Value.ownBlock];omega
    ·cases c1
   | false =>
    have hne:¬(RK.flat=RK.deep):=by intro h;cases h
    simp only [kd,Bool.false_eq_true,if_false,hne]
    intro x hx
    rcases m13 x hx with ⟨q,c1,c2⟩ | ⟨_,c2⟩
    ·exact .inr ⟨by rw [c2];simp,(hownM x q c2 c1).trans (if_neg (by simp))⟩
    ·exact .inl c2
 have hfree:=hS1.free F1.next (Nat.le_refl _)
 have hbn:lk F1.boxes F1.next=none:=by
  cases hb:lk F1.boxes F1.next with
  | none=>rfl
  | some c=>have:=hS1.kbox _ c hb;omega
 obtain ⟨hfin,_⟩:=hS1.group (M:=M) (t:=F1.next) (nx:=F1.next+1) (deep:=deep) (v:=v) (r:=⟨kd,i.elem,e.size,.list e.size rows⟩) (w':=w.alloc (.cells cells.toArray i.elem)) rfl rfl rfl (by simp) none (fun b e=>by cases e)
  (fun x hx _=>heap_alloc_old w _ x hx) (fun q hm _=>(m14 q ((hM q).1 hm)).1) (fun k' cs hb=>by
   cases hm:M k' with
   | false=>rfl
   | true =>
    obtain ⟨_,r0,h0⟩:=m14 k' ((hM k').1 hm)
    exact (h.kdis k' r0 cs h0 (by rw [←m9];exact hb)).elim) hbn (by omega) (by omega) (.inl hfree.1) (.inl (Nat.le_refl _)) ⟨_,_,_,rfl⟩ (fun b hb=>by
   have:w.heap.size=b:=by simpa [v,Value.ownBlock] using hb
   subst this
   exact ⟨by simp,.inl (Nat.le_refl _)⟩) (fun b e=>by cases e) (by show kd≠.shared;cases deep<;>simp [kd]) hok
 have hval:(execOp a.eval o).run P w=.ok (.value v) (w.alloc (.cells cells.toArray i.elem)):=by
  simp only [execOp,hop]
  rw [Sem.run_bind,hrun]
  rfl
 refine xbv hval (hK _ _ _ _ (St.put hfin o.dst (tv:=.one (.own F1.next)) ?_) m1)
 show (if F1.next=F1.next then some v else _)=some v
 rw [if_pos rfl]
end
end Go.Ev
/- A call that writes into rows of the frame's own. -/
namespace Go.Ev
open Go.RowKit
theorem xaB.at_ {w:World}:∀{ps:List PV} {vs:List Value} {Ns:List (List Nat)} {i:Nat} {p:PV},xaB w ps vs Ns→ps[i]? = some p→∃v N,vs[i]? = some v∧Ns[i]? = some N∧xak w [p] [v] N
 | [],_,_,i,p,_,h=>by simp at h
 | q::ps,vs,Ns,i,p,⟨v,r,N,Nr,e1,e2,h1,h2⟩,h=>by
  subst e1;subst e2
  cases i with
  | zero=>simp at h;subst h;exact ⟨v,N,rfl,rfl,h1⟩
  | succ i =>
   obtain ⟨v',N',q1,q2,q3⟩:=xaB.at_ (i:=i) h2 (by simpa using h)
   exact ⟨v',N',by simpa using q1,by simpa using q2,q3⟩
theorem xaB.len {w:World}:∀{ps:List PV} {vs:List Value} {Ns:List (List Nat)},xaB w ps vs Ns→vs.length=ps.length
 | [],_,_,⟨e,_⟩=>by subst e;rfl
 | q::ps,_,_,⟨v,r,N,Nr,e1,e2,h1,h2⟩=>by subst e1;simp [xaB.len h2]
theorem Likes.at_:∀{ps qs:List PV} {i:Nat} {p:PV},Likes ps qs→ps[i]? = some p→∃q,qs[i]? = some q∧PV.like p q
 | [],_,i,p,_,h=>by simp at h
 | a::ps,qs,i,p,⟨q,r,e,h1,h2⟩,h=>by
  subst e
  cases i with
  | zero=>simp at h;subst h;exact ⟨q,rfl,h1⟩
  | succ i =>
   obtain ⟨q',q1,q2⟩:=Likes.at_ (i:=i) h2 (by simpa using h)
   exact ⟨q',by simpa using q1,q2⟩
theorem Likes.len:∀{ps qs:List PV},Likes ps qs→qs.length=ps.length
 | [],_,h=>by have:_=[]:=h;subst this;rfl
 | a::ps,_,⟨q,r,e,h1,h2⟩=>by subst e;simp [Likes.len h2]
theorem xgz {F:Fr}:∀{cs:List Cell} {ps:List PV} {i:Nat} {c:Cell},xaI F cs=some ps→cs[i]? = some c→∃p,ps[i]? = some p∧xa5 F c=some p
 | [],_,i,c,_,h=>by simp at h
 | a::cs,ps,i,c,hp,h=>by
  simp only [xaI] at hp
  split at hp
  ·rename_i p q e1 e2
   injection hp with hp
   subst hp
   cases i with
   | zero=>simp at h;subst h;exact ⟨p,rfl,e1⟩
   | succ i =>
    obtain ⟨p',q1,q2⟩:=xgz (i:=i) e2 (by simpa using h)
    exact ⟨p',by simpa using q1,q2⟩
  ·cases hp
def dist:List Cell→List Nat→Prop
 | [],_=>True
 | .own id::cs,used=>id∉used∧dist cs (id::used)
 | _::cs,used=>dist cs used
theorem xmb {F:Fr}:∀{zs cs:List Cell} {used:List Nat},xaP F zs cs used=true→dist cs used
 | [],[],used,_=>trivial
 | z::zs,c::cs,used,h=>by
  simp only [xaP,Bool.and_eq_true] at h
  obtain ⟨_,h2⟩:=h
  cases c
  case own id =>
   simp only [Bool.and_eq_true,Bool.not_eq_true'] at h2
   exact ⟨by simpa using h2.1,xmb h2.2⟩
  all_goals exact xmb (F:=F) (zs:=zs) (cs:=cs) h2
 | [],_::_,_,h=>by simp [xaP] at h
 | _::_,[],_,h=>by simp [xaP] at h
theorem xgu:∀{cs:List Cell} {used:List Nat} {id:Nat},dist cs used→id∈used→Cell.own id∉cs
 | [],_,_,_,_=>by simp
 | c::cs,used,id,h,hi=>by
  cases c
  case own j =>
   obtain ⟨h1,h2⟩:=h
   intro hm
   rcases List.mem_cons.1 hm with e | hm
   ·injection e with e;subst e;exact h1 hi
   ·exact xgu h2 (List.mem_cons_of_mem _ hi) hm
  all_goals
   intro hm
   rcases List.mem_cons.1 hm with e | hm
   ·cases e
   ·exact xgu (cs:=cs) h hi hm
theorem xdc (out:List PV):∀(cs:List Cell) (j:Nat) (F:Fr),(xbx F out j cs).tmps=F.tmps∧(xbx F out j cs).boxes=F.boxes∧(xbx F out j cs).next=F.next∧(xbx F out j cs).nt=F.nt
 | [],j,F=>⟨rfl,rfl,rfl,rfl⟩
 | c::cs,j,F=>by
  cases c
  case own id =>
   simp only [xbx]
   split
   ·exact xdc out cs (j+1) _
   ·exact xdc out cs (j+1) _
  all_goals exact xdc out cs (j+1) F
theorem xdp (out:List PV):∀(cs:List Cell) (j:Nat) (F:Fr),(xbx F out j cs).pin=F.pin
 | [],j,F=>rfl
 | c::cs,j,F=>by
  cases c
  case own id =>
   simp only [xbx]
   split
   ·exact xdp out cs (j+1) _
   ·exact xdp out cs (j+1) _
  all_goals exact xdp out cs (j+1) F
theorem xb6 (out:List PV):∀(cs:List Cell) (j:Nat) (F:Fr) (id:Nat),Cell.own id∉cs→lk (xbx F out j cs).rows id=lk F.rows id
 | [],j,F,id,_=>rfl
 | c::cs,j,F,id,h=>by
  have h2:Cell.own id∉cs:=fun hm=>h (List.mem_cons_of_mem _ hm)
  cases c
  case own i =>
   simp only [xbx]
   split
   ·rw [xb6 out cs (j+1) _ id h2]
    simp only [setRow,xas]
    rw [if_neg]
    intro e;subst e;exact h (List.mem_cons_self ..)
   ·exact xb6 out cs (j+1) _ id h2
  all_goals exact xb6 out cs (j+1) F id h2
theorem xfl (out:List PV):∀(cs:List Cell) (j:Nat) (F:Fr) (used:List Nat) (i id:Nat),dist cs used→cs[i]? = some (.own id)→(∀q,Cell.own q∈cs→∃r,lk F.rows q=some r) →
 ∃r,lk F.rows id=some r∧lk (xbx F out j cs).rows id=some { r with e:=atP out (j+i) }
 | [],j,F,used,i,id,_,h,_=>by simp at h
 | c::cs,j,F,used,0,id,hd,h,hr=>by
  simp at h
  subst h
  obtain ⟨_,hd⟩:=hd
  obtain ⟨r,hr⟩:=hr id (List.mem_cons_self ..)
  refine ⟨r,hr,?_⟩
  simp only [xbx,hr]
  rw [xb6 out cs (j+1) _ id (xgu hd (List.mem_cons_self ..))]
  simp [setRow,xas]
 | c::cs,j,F,used,i+1,id,hd,h,hr=>by
  have h':cs[i]? = some (.own id):=by simpa using h
  have hr':∀q,Cell.own q∈cs→∃r,lk F.rows q=some r:=fun q hq=>hr q (List.mem_cons_of_mem _ hq)
  cases c
  case own q =>
   obtain ⟨hq,hd⟩:=hd
   obtain ⟨rq,hrq⟩:=hr q (List.mem_cons_self ..)
   have hne:q≠id:=fun e=>by
    subst e
    exact xgu hd (List.mem_cons_self ..) (List.mem_of_getElem? h')
   obtain ⟨r,h1,h2⟩:=xfl out cs (j+1) (setRow F q { rq with e:=atP out j }) (q::used) i id hd h' (fun q' hq'=>by
    obtain ⟨r',hr''⟩:=hr' q' hq'
    simp only [setRow,xas]
    split
    ·exact ⟨_,rfl⟩
    ·exact ⟨_,hr''⟩)
   simp only [setRow,xas,if_neg hne] at h1
   refine ⟨r,h1,?_⟩
   simp only [xbx,hrq]
   rw [h2,show j+1+i=j+(i+1) by omega]
  all_goals
   obtain ⟨r,h1,h2⟩:=xfl out cs (j+1) F used i id hd h' hr'
   refine ⟨r,h1,?_⟩
   simp only [xbx]
   rw [h2,show j+1+i=j+(i+1) by omega]
section
variable {P : Program} {T : Tab} {o : Oper} {F : Fr} {w0 : Base} {G : Gh} {a : Act} {w : World}
theorem xj5 (hR:Rel w0 G F a w):∀{zs cs:List Cell} {ps:List PV} {vs:List Value} {used:List Nat},(∀z∈zs,(∃q,z=.pv q)∨∃e s,z=.nil e s)→xaP F zs cs used=true→xae zs cs→xaI F cs=some ps→xaN G w cs vs →
 ∃Ns,xaB w ps vs Ns∧Ns.flatten.Nodup∧(∀x∈Ns.flatten,∃id,Cell.own id∈cs∧id∉used∧G.own x=some id)∧∀(i:Nat) (c:Cell) (N:List Nat),cs[i]? = some c→Ns[i]? = some N→∀x∈N,∃id,c=Cell.own id∧G.own x=some id
 | [],[],ps,vs,used,_,_,_,hp,hv=>by
  simp only [xaI] at hp;injection hp with hp;subst hp
  have:vs=[]:=hv
  subst this
  exact ⟨[],⟨rfl,rfl⟩,by simp,by simp,by simp⟩
 | z::zs,c::cs,ps,vs,used,hz,hd,hf,hp,⟨v,r,e,hv1,hv2⟩=>by
  subst e
  simp only [xaI] at hp
  split at hp
  ·rename_i p q e1 e2
   injection hp with hp
   subst hp
   simp only [xaP,Bool.and_eq_true] at hd
   obtain ⟨hd1,hd2⟩:=hd
   have hf1:match (z,c) with | (.pv _,.pv p)=>p.flat=true | _=>True:=hf (z,c) (by simp)
   have hf2:xae zs cs:=fun x hx=>hf x (by simp [hx])
   obtain ⟨N1,k1,k2,k3⟩:=xgO hR hd1 hf1 (hz z (by simp)) e1 hv1
   have hat:∀{Ns:List (List Nat)},(∀(i:Nat) (c:Cell) (N:List Nat),cs[i]? = some c→Ns[i]? = some N→∀x∈N,∃id,c=Cell.own id∧G.own x=some id)→∀(i:Nat) (c':Cell) (N:List Nat),(c::cs)[i]? = some c'→(N1::Ns)[i]? = some N→∀x∈N,∃id,c'=Cell.own id∧G.own x=some id:=by
    intro Ns h i c' N h1 h2
    cases i with
    | zero=>simp at h1 h2;subst h1;subst h2;exact k3
    | succ i=>exact h i c' N (by simpa using h1) (by simpa using h2)
   by_cases hc:∃id,c=.own id
   ·obtain ⟨id,rfl⟩:=hc
    simp only [Bool.and_eq_true,Bool.not_eq_true'] at hd2
    obtain ⟨Ns,m1,m2,m3,m4⟩:=xj5 hR (fun z h=>hz z (by simp [h])) hd2.2 hf2 e2 hv2
    refine ⟨N1::Ns,⟨v,r,N1,Ns,rfl,rfl,k1,m1⟩,?_,fun x hx=>?_,hat m4⟩
    ·rw [List.flatten_cons,List.nodup_append]
     refine ⟨k2,m2,fun x hx y hy hxy=>?_⟩
     subst hxy
     obtain ⟨i1,h1,h2⟩:=k3 x hx
     obtain ⟨i2,h3,h4,h5⟩:=m3 x hy
     injection h1 with h1
     subst h1
     rw [h2] at h5
     injection h5 with h5
     subst h5
     exact h4 (List.mem_cons_self ..)
    ·rw [List.flatten_cons] at hx
     rcases List.mem_append.1 hx with hx | hx
     ·obtain ⟨i1,h1,h2⟩:=k3 x hx
      injection h1 with h1
      subst h1
      exact ⟨_,List.mem_cons_self ..,by simpa using hd2.1,h2⟩
     ·obtain ⟨i2,h3,h4,h5⟩:=m3 x hx
      exact ⟨i2,List.mem_cons_of_mem _ h3,fun hm=>h4 (List.mem_cons_of_mem _ hm),h5⟩
   ·have hN1:N1=[]:=by
     cases N1 with
     | nil=>rfl
     | cons x _=>obtain ⟨id,h,_⟩:=k3 x (by simp);exact absurd ⟨id,h⟩ hc
    have hd3:xaP F zs cs used=true:=by
     cases c
     case own id=>exact absurd ⟨id,rfl⟩ hc
     all_goals exact hd2
    obtain ⟨Ns,m1,m2,m3,m4⟩:=xj5 hR (fun z h=>hz z (by simp [h])) hd3 hf2 e2 hv2
    refine ⟨N1::Ns,⟨v,r,N1,Ns,rfl,rfl,k1,m1⟩,by subst hN1;simpa using m2,fun x hx=>?_,hat m4⟩
    subst hN1
    obtain ⟨i2,h3,h4,h5⟩:=m3 x (by simpa using hx)
    exact ⟨i2,List.mem_cons_of_mem _ h3,h4,h5⟩
  ·cases hp
 | [],_::_,_,_,_,_,h,_,_,_=>by simp [xaP] at h
 | _::_,[],_,_,_,_,h,_,_,_=>by simp [xaP] at h
theorem xog {id:Nat} {r:Row} {v:Value} {N M:List Nat} {q:PV} {w':World} (hk:r.kind=.deep) (hok:xbk G w id r v) (h1:xak w [r.e] [v] N) (h2:xak w' [q] [v] N) (hl:PV.like r.e q) (hM:Mod M w w')
 (hn:N.Nodup) (ho:∀x∈N,G.own x=some id) (hNM:∀x∈N,x∈M) (hMN:∀x∈M,G.own x=some id→x∈N) (hlt:∀x,G.own x=some id→x<w.heap.size):xbk G w' id { r with e:=q } v:=by
 obtain ⟨hs,rows,xs,N0,he,hlr,hvv,hown,hb,hkk⟩:=xdj (by rw [hk];simp) hok
 rw [he] at h1 hl
 obtain ⟨rows',rfl,hl1,hl2⟩:=hl
 have hlr':=hl2 hlr
 refine xdQ (by rw [hk];simp) ?_
 refine ⟨hs,?_⟩
 show ∃rows xs N,PV.list r.sz rows'=.list r.sz rows∧_
 cases h1 with
 | @lnil _ ad cap _ _ _ h3 =>
  cases h3
  have hr0:rows'=[]:=List.eq_nil_of_length_eq_zero hl1
  subst hr0
  refine ⟨[],[],[],rfl,by simp,.nil,?_,hb,?_⟩
  ·rcases hown.2 with ⟨e,h0⟩ | ⟨g,cap',cur,e,hg,hh,hn',hm,hc,htk⟩
   ·exact ⟨by simp,.inl ⟨e,rfl⟩⟩
   ·have hog:=hb g (by rw [e];rfl)
    have hgM:g∉M:=fun hm'=>by simpa using hMN g hm' hog
    injection e with e1 e2 e3
    subst e3
    refine ⟨by simp,.inr ⟨g,cap,cur,by rw [e1];rfl,hg,(hM.block g (hlt g hog) hgM).trans hh,Nat.zero_le _,hm,hc,by simp⟩⟩
  ·rw [if_pos hk];exact ⟨by simp,by simp⟩
 | @list _ _ b off cap ys N1 _ _ N2 hs' h0 hlq hcap cells hv hn2 =>
  cases hn2
  rcases hown.2 with ⟨e,_⟩ | ⟨g,cap',cur,e,hg,hh,hn',hm,hc,htk⟩
  ·cases e
  ·injection e with e1 e2 e3
   injection e1 with e1
   injection e1 with e1 e4
   subst e1;subst e3;subst e4
   have h2':xak w' [PV.list r.sz rows'] [.slice (some ⟨b,0,none⟩) rows.length cap] (b::(N1++[])):=h2
   rw [←hl1] at h2'
   generalize hNN:b::(N1++[])=NN at h2'
   cases h2' with
   | lnil h3=>simp at hl1;exact absurd (by simpa using hl1.symm) h0
   | @list _ _ _ _ _ ys' N1' _ _ N2' hs2 h02 hlq2 hcap2 cells2 hv2 hn22 =>
    cases hn22
    obtain ⟨cur',hc1,hc2⟩:=hM.cells b (hNM b (by simp)) cur r.elem hh
    have hyl:ys'.length=rows'.length*r.sz:=by rw [←hv2.len,xcx hlq2]
    rw [List.append_nil,List.append_nil] at hNN
    injection hNN with _ hNN
    subst hNN
    simp only [List.append_nil] at hn ho
    refine ⟨rows',ys',N1,rfl,hlr',hv2,⟨hyl,.inr ⟨b,cap,cur',by rw [←hl1],Nat.zero_le _,hc1,hcap2,hm,by rw [hc2,hc],?_⟩⟩,hb,?_⟩
    ·apply List.ext_getElem?
     intro j
     rw [List.getElem?_take]
     split
     ·rename_i hj
      have hj':j<rows'.length*r.sz:=hj
      have hjy:j<ys'.length:=by rw [hyl];exact hj'
      have h5:=cells2 j ys'[j] (List.getElem?_eq_getElem hjy)
      rw [cell_of_row w' b (0+j) cur' r.elem (0,0) hc1] at h5
      rw [List.getElem?_eq_getElem hjy,←h5]
      simp
     ·rename_i hj
      have hj':¬j<rows'.length*r.sz:=hj
      rw [List.getElem?_eq_none (by rw [hyl];omega)]
    ·rw [if_pos hk]
     rw [List.nodup_cons] at hn
     refine ⟨by simpa using hn.2,fun x hx=>⟨ho x (by simp [hx]),?_⟩⟩
     intro e
     have:b=x:=by injection e
     subst this
     exact hn.1 (by simpa using hx)
theorem xo1 {Ns:List (List Nat)} {i:Nat} {N:List Nat} (h:Ns[i]? = some N):∀x∈N,x∈Ns.flatten:=fun x hx=>List.mem_flatten.2 ⟨N,List.mem_of_getElem? h,hx⟩
theorem xjJ:∀{Ns:List (List Nat)} {i:Nat} {N:List Nat},Ns.flatten.Nodup→Ns[i]? = some N→N.Nodup
 | [],i,N,_,h=>by simp at h
 | M::Ns,0,N,hn,h=>by
  simp at h;subst h
  rw [List.flatten_cons,List.nodup_append] at hn
  exact hn.1
 | M::Ns,i+1,N,hn,h=>by
  rw [List.flatten_cons,List.nodup_append] at hn
  exact xjJ hn.2.1 (i:=i) (by simpa using h)
theorem St.marked (h:St w0 G F a w) {zs cs:List Cell} {ps ps' out:List PV} {vs:List Value} {w':World} {k':PV} (hz:∀z∈zs,(∃q,z=.pv q)∨∃e s,z=.nil e s) (hd:xaP F zs cs []=true) (hps:xaI F cs=some ps) (hv:xaN G w cs vs)
 {Ns:List (List Nat)} (he:xaB w ps vs Ns) (hnd:Ns.flatten.Nodup) (hat:∀(i:Nat) (c:Cell) (N:List Nat),cs[i]? = some c→Ns[i]? = some N→∀x∈N,∃id,c=Cell.own id∧G.own x=some id)
 (hfl:∀x∈Ns.flatten,∃id,Cell.own id∈cs∧G.own x=some id) (hout:out=ps'++[k']) (hlk:Likes ps ps') (hM:Mod Ns.flatten w w') (he':xaB w' ps' vs Ns):St w0 G (xbx F out 0 cs) a w':=by
 have hR:=h.rel
 obtain ⟨s1,s2,s3,s4⟩:=xdc out cs 0 F
 have hdist:=xmb hd
 have hrows:∀q,Cell.own q∈cs→∃r,lk F.rows q=some r:=by
  intro q hq
  obtain ⟨i,hi,hqi⟩:=List.mem_iff_getElem.1 hq
  obtain ⟨p,_,hp⟩:=xgz (i:=i) hps (by rw [List.getElem?_eq_getElem hi,hqi])
  simp only [xa5] at hp
  split at hp
  ·exact ⟨_,by assumption⟩
  ·cases hp
 have hSb:∀x,G.S x→w'.heap[x]? = w.heap[x]? := fun x hx=>by
  refine hM.block x (hR.stb x hx).2 fun hm=>?_
  obtain ⟨id,_,ho⟩:=hfl x hm
  rw [(hR.stb x hx).1] at ho;cases ho
 have hother:∀x id,G.own x=some id→Cell.own id∉cs→w'.heap[x]? = w.heap[x]? := fun x id hx hn=>by
  refine hM.block x (hR.own x id hx).2 fun hm=>?_
  obtain ⟨id',h1,ho⟩:=hfl x hm
  rw [hx] at ho;injection ho with ho;subst ho
  exact hn h1
 refine ⟨hR.move ⟨hM.os.trans hR.below.os,hM.tape.trans hR.below.tape,hM.output.trans hR.below.output,Nat.le_trans hR.below.size hM.size,fun k hk=>?_⟩ (.refl G) hSb s1 s4 ?_ ?_ ?_ ?_ hR.rowv hR.sub ?_ (xdp _ _ _ _),fun id hi=>h.free id (by rw [s3] at hi;exact hi),fun id r e=>?_,fun id r e=>?_,fun id r c e e'=>?_⟩
 ·refine (hM.block k (Nat.lt_of_lt_of_le hk hR.below.size) fun hm=>?_).trans (hR.below.block k hk)
  obtain ⟨id,_,ho⟩:=hfl k hm
  have:=(hR.own k id ho).1
  omega
 ·intro k cells b e1 e2
  rw [s2] at e1
  refine xf7.carry (.refl G) hSb (fun ho=>⟨hother b k ho fun hm=>?_,ho⟩) (hR.boxes k cells b e1 e2)
  obtain ⟨r,hr⟩:=hrows k hm
  exact h.kdis k r cells hr e1
 ·intro id r v e1 e2
  by_cases hm:Cell.own id∈cs
  ·obtain ⟨i,hi,hidi⟩:=List.mem_iff_getElem.1 hm
   have hci:cs[i]? = some (.own id):=by rw [List.getElem?_eq_getElem hi,hidi]
   obtain ⟨r0,q1,q2⟩:=xfl out cs 0 F [] i id hdist hci hrows
   rw [q2] at e1
   injection e1 with e1
   subst e1
   obtain ⟨p,p1,p2⟩:=xgz hps hci
   simp only [xa5,q1] at p2
   injection p2 with p2
   subst p2
   obtain ⟨q,l1,l2⟩:=hlk.at_ p1
   obtain ⟨v1,N,n1,n2,n3⟩:=he.at_ p1
   obtain ⟨v2,N2,n4,n5,n6⟩:=he'.at_ l1
   rw [n1] at n4;injection n4 with n4;subst n4
   rw [n2] at n5;injection n5 with n5;subst n5
   obtain ⟨v3,n7,n8⟩:=hv.at_ hci
   rw [n1] at n7;injection n7 with n7;subst n7
   have hvv:v1=v:=by have h8:G.row id=some v1:=n8;rw [e2] at h8;injection h8 with h8;exact h8.symm
   subst hvv
   have hqo:atP out (0+i)=q:=by
    have hil:i<ps'.length:=by
     rcases Nat.lt_or_ge i ps'.length with h' | h'
     ·exact h'
     ·rw [List.getElem?_eq_none h'] at l1;cases l1
    unfold atP
    rw [hout,Nat.zero_add,List.getD_eq_getElem?_getD,List.getElem?_append_left hil,l1]
    rfl
   have hk:r0.kind=.deep:=by
    have hgo:∀{zs cs:List Cell} {used:List Nat} {i:Nat},xaP F zs cs used=true→cs[i]? = some (.own id)→(∀z∈zs,(∃q,z=.pv q)∨∃e s,z=.nil e s)→r0.kind=.deep:=by
     intro zs
     induction zs with
     | nil=>intro cs used i hd hc _;cases cs with
      | nil=>simp at hc
      | cons _ _=>simp [xaP] at hd
     | cons z zs ih =>
      intro cs used i hd hc hz
      cases cs with
      | nil=>simp at hc
      | cons c cs =>
       simp only [xaP,Bool.and_eq_true] at hd
       obtain ⟨hd1,hd2⟩:=hd
       cases i with
       | zero =>
        simp at hc
        subst hc
        rcases hz z (by simp) with ⟨q,rfl⟩ | ⟨e,s,rfl⟩
        ·simp [xdu] at hd1
        ·simpa [xdu,q1] using hd1
       | succ i =>
        cases c
        case own j =>
         simp only [Bool.and_eq_true] at hd2
         exact ih hd2.2 (i:=i) (by simpa using hc) fun z hz'=>hz z (by simp [hz'])
        all_goals exact ih (cs:=cs) hd2 (i:=i) (by simpa using hc) fun z hz'=>hz z (by simp [hz'])
    exact hgo hd hci hz
   have hNown:∀x∈N,G.own x=some id:=fun x hx=>by
    obtain ⟨id',h1,h2⟩:=hat i _ N hci n2 x hx
    injection h1 with h1;subst h1;exact h2
   rw [hqo]
   refine xog hk (hR.rows id r0 v1 q1 e2) n3 n6 l2 hM (xjJ hnd n2) hNown (xo1 n2) (fun x hx ho=>?_) (fun x hx=>(hR.own x id hx).2)
   obtain ⟨N',m1,m2⟩:=List.mem_flatten.1 hx
   obtain ⟨j,hj,hjN⟩:=List.mem_iff_getElem.1 m1
   have hNj:Ns[j]? = some N':=by rw [List.getElem?_eq_getElem hj,hjN]
   have hjc:j<cs.length:=by
    have l1:=hv.len
    have l2:∀{ps:List PV} {vs:List Value} {Ns:List (List Nat)},xaB w ps vs Ns→Ns.length=vs.length:=by
     intro ps
     induction ps with
     | nil=>intro vs Ns ⟨a,b⟩;subst a;subst b;rfl
     | cons p ps ih=>intro vs Ns ⟨v,r,N,Nr,e1,e2,_,h2⟩;subst e1;subst e2;simp [ih h2]
    have:=l2 he
    omega
   have hcj:cs[j]? = some cs[j]:=List.getElem?_eq_getElem hjc
   obtain ⟨id',h1,h2⟩:=hat j _ N' hcj hNj x m2
   rw [ho] at h2;injection h2 with h2;subst h2
   have hij:j=i:=by
    rw [h1] at hcj
    have hgo:∀{cs:List Cell} {used:List Nat} {i j:Nat},dist cs used→cs[i]? = some (.own id)→cs[j]? = some (.own id)→j=i:=by
     intro cs
     induction cs with
     | nil=>intro used i j _ hc _;simp at hc
     | cons c cs ih =>
      intro used i j hd hc hc'
      cases i with
      | zero =>
       cases j with
       | zero=>rfl
       | succ j =>
        simp at hc;subst hc
        exact absurd (List.mem_of_getElem? (by simpa using hc')) (xgu hd.2 (List.mem_cons_self ..))
      | succ i =>
       cases j with
       | zero =>
        simp at hc';subst hc'
        exact absurd (List.mem_of_getElem? (by simpa using hc)) (xgu hd.2 (List.mem_cons_self ..))
       | succ j =>
        have hc1:cs[i]? = some (.own id):=by simpa using hc
        have hc2:cs[j]? = some (.own id):=by simpa using hc'
        cases c
        case own q=>rw [ih hd.2 hc1 hc2]
        all_goals rw [ih (used:=used) hd hc1 hc2]
    exact hgo hdist hci hcj
   subst hij
   rw [n2] at hNj;injection hNj with hNj;subst hNj
   exact m2
  ·rw [xb6 out cs 0 F id hm] at e1
   exact xbk.carry (fun _ h=>h) hSb (fun x hx=>⟨hother x id hx hm,hx⟩) (hR.rows id r v e1 e2)
 ·intro x hx;exact ⟨(hR.stb x hx).1,Nat.lt_of_lt_of_le (hR.stb x hx).2 hM.size⟩
 ·intro x id hx;exact ⟨(hR.own x id hx).1,Nat.lt_of_lt_of_le (hR.own x id hx).2 hM.size⟩
 ·intro x id hx
  by_cases hm:x∈Ns.flatten
  ·obtain ⟨c,t,hc⟩:=hR.wr x id hx
   obtain ⟨c',h1,_⟩:=hM.cells x hm c t hc
   exact ⟨_,_,h1⟩
  ·exact (hR.wr x id hx).stay (hM.block x (hR.own x id hx).2 hm)
 ·rw [s3]
  by_cases hm:Cell.own id∈cs
  ·obtain ⟨r,hr⟩:=hrows id hm;exact h.krow id r hr
  ·rw [xb6 out cs 0 F id hm] at e;exact h.krow id r e
 ·rw [s3];rw [s2] at e;exact h.kbox id r e
 ·rw [s2] at e'
  by_cases hm:Cell.own id∈cs
  ·obtain ⟨r,hr⟩:=hrows id hm;exact h.kdis id r c hr e'
  ·rw [xb6 out cs 0 F id hm] at e;exact h.kdis id r c e e'
theorem xpR {c:Call} {x px py:Operand} {f:FuncId} {t u:TypeId} {i:TI} {v:TV} {cs:List Cell} {ps out:List PV} {mp:PV} {k:Fr→Prop} (hT:xaz P T) (h:St w0 G F a w) (hop:o.op=.call c) (hcal:c.callee=.value x) (ex:opnd T F 0 x=some (.one (.fn f [])))
 (hargs:c.args.toList=[px,py]) (hex:opnd T F t px=some v) (hey:opnd T F u py=some (.one (.pv mp))) (hi:lk T.ti t=some i) (hcs:xdy v=some cs) (hps:xaI F cs=some ps) (hd:xaP F i.zero cs []=true) (hf:xae i.zero cs)
 (hC:xro P f [xwq v ps,.one mp] out) (hk:k (put (xbx F out 0 cs) o.dst (.one (.pv (atP out cs.length))))) {K:Act→World→Prop} {Q:Exit→Act→World→Prop}
 (hK:∀G' F' a' w',St w0 G' F' a' w'→k F'→K a' w'):o.wp P a w K Q:=by
 have hR:=h.rel
 obtain ⟨⟨fn,hfn,hn,hb⟩,xa,ps0,ps',m0,m',e1,e2,hout,hlk,hcall⟩:=hC
 obtain ⟨_,_,_,_,zz,_,hz0⟩:=(hT.ty t i hi).info
 have hz:=xfi hz0
 have hpy:=(hR.eval T u py _ hey)
 have hpx:=hR.eval T t px _ hex
 injection e1 with e3 e4
 injection e4 with e4 _
 injection e4 with e4
 subst e4
 have hpy':a.eval py=.int .i64 m0:=xbp.int_inv hpy
 have hvs:∃vs:List Value,xaN G w cs vs∧a.eval px=mkV xa vs∧ps0=ps:=by
  cases v with
  | one c0 =>
   injection hcs with hcs
   subst hcs
   have h':xdb G w c0 (a.eval px):=hpx
   refine ⟨[a.eval px],⟨_,[],rfl,h',rfl⟩,?_,?_⟩
   ·rw [←e3];rfl
   ·rcases e2 with e2 | ⟨p,e2,e5⟩
    ·rw [←e3] at e2;cases e2
    ·rw [←e3] at e2
     injection e2 with e2
     rw [e5,←e2]
     simp only [xaI] at hps
     split at hps
     ·rename_i p1 q1 e6 e7
      injection hps with hps
      injection e7 with e7
      subst e7
      rw [←hps]
      rfl
     ·cases hps
  | agg ds =>
   injection hcs with hcs
   subst hcs
   obtain ⟨vs,hv,hv2⟩:=hpx
   refine ⟨vs,hv2,?_,?_⟩
   ·rw [hv,←e3];rfl
   ·rcases e2 with e2 | ⟨p,e2,e5⟩
    ·rw [←e3] at e2;injection e2 with e2;exact e2.symm
    ·rw [←e3] at e2;cases e2
  | tup _=>cases hcs
  | undef=>cases hcs
  | mt=>cases hcs
 obtain ⟨vs,hv,hvx,e5⟩:=hvs
 subst e5
 obtain ⟨Ns,n1,n2,n3,n4⟩:=xj5 hR hz hd hf hps hv
 have hfx:a.eval x=.func (.func f) #[] ([]:List Value).toArray:=by
  obtain ⟨vs',h1,h2⟩:=hR.eval T 0 x _ ex
  have h2:vs'=[]:=h2
  subst h2
  exact h1
 have hrun:=xb1 (w:=w) hop hcal hfx hfn hn hb
 have hWr:∀b∈Ns.flatten,Wr1 w b:=fun b hb=>by
  obtain ⟨id,_,_,ho⟩:=n3 b hb
  exact hR.wr b id ho
 unfold Oper.wp
 rw [hrun]
 have harr:(c.args.toList.map a.eval++[]).toArray=#[a.eval px,a.eval py]:=by rw [hargs];rfl
 rw [harr,hvx,hpy']
 refine (hcall w vs Ns (xm2 w0.env hR.below) n1 n2 hWr).mono fun e w' ⟨he,hM,he'⟩=>?_
 subst he
 have hS:=h.marked hz hd hps hv n1 n2 n4 (fun x hx=>by obtain ⟨id,h1,_,h2⟩:=n3 x hx;exact ⟨id,h1,h2⟩) hout hlk hM he'
 refine hK _ _ _ _ (hS.put o.dst (tv:=.one (.pv (atP out cs.length))) ?_) hk
 have hl:atP out cs.length=.int .i64 m':=by
  have l1:=hlk.len
  have l2:=n1.len
  have l3:=hv.len
  unfold atP
  rw [hout,List.getD_eq_getElem?_getD,List.getElem?_append_right (by omega),show cs.length-ps'.length=0 by omega]
  rfl
 rw [hl]
 exact xbp.int
end
end Go.Ev
/- append. -/
namespace Go.Ev
open Go.RowKit
section
variable {P : Program} {T : Tab} {o : Oper} {F : Fr} {w0 : Base} {G : Gh} {a : Act} {w : World}
theorem xr9 {t ty e:TypeId} {i:TypeInfo} {z:Value} {size:Nat} (ht:P.underlying t=some (.slice e)) (hi:P.info? e=some i) (hz:i.zero=some z) (hsize:i.size=size) (hzs:z.cells.size=size) (hsz:0<size)
 {v:Value} {n:Nat} {xs:List Value} (hown:w.ownsRow 0 e size v n xs) {ad:Option Addr} {m c:Nat} {news:List Value} (hl:news.length=m*size) (hnews:∀aa,ad=some aa→∀j u,news[j]? = some u→w.cell? (aa.add j)=some u) (hnone:ad=none→m=0)
 (h1:∀u∈news,u.oneCell'=true) (h63:n+m≤maxLen) (hbytes:(n+m)*i.bytes≤140737488355328) :
 ∃v' w',(Builtin.append_ #[t,t] ty #[v,.slice ad m c]).run P w=.ok v' w'∧w'.ownsRow 0 e size v' (n+m) (xs++news)∧w.grownBy w' v.ownBlock∧(∀b,v'.ownBlock=some b→v.ownBlock=some b∨w.heap.size≤b)∧(∃ad l c,v'=.slice ad l c)∧∀b,v.ownBlock=some b→Wr1 w' b:=by
 cases ad with
 | none =>
  have hm:=hnone rfl
  subst hm
  have hn:news=[]:=List.eq_nil_of_length_eq_zero (by simpa using hl)
  subst hn
  refine ⟨v,w,?_,by simpa using hown,⟨rfl,rfl,rfl,Nat.le_refl _,fun _ _ _=>rfl⟩,fun b hb=>.inl hb,?_,fun b hb=>hown.wr hb⟩
  ·rcases hown.2 with ⟨rfl,rfl⟩ | ⟨g,cap,cur,rfl,_,_,hnc,_⟩
   ·simp [Builtin.append_,run_underlying ht,sizeOf,typeInfo,hi,Builtin.lenOf,Builtin.firstCells]
   ·simp [Builtin.append_,run_underlying ht,sizeOf,typeInfo,hi,Builtin.lenOf,Builtin.firstCells,hnc,storeCells]
  ·rcases hown.2 with ⟨rfl,rfl⟩ | ⟨g,cap,cur,rfl,_⟩<;>exact ⟨_,_,_,rfl⟩
 | some aa =>
  obtain ⟨v',w',k1,k2,k3,k4⟩:=run_append_own (P:=P) w 0 t ty e i z size i.bytes ht hi hz hsize rfl hzs hsz v n xs hown aa m c news hl (hnews aa rfl) h1 h63 hbytes (Nat.zero_le _)
  have hsmall:n+m≤9223372036854775807:=by simp only [maxLen] at h63;omega
  refine ⟨v',w',k1,k2,k3,fun b hb=>?_,?_,fun b hb=>?_⟩
  ·rcases hown.2 with ⟨rfl,rfl⟩ | ⟨g,cap,cur,rfl,hbg,hg,hnc,hcm,hcs,htake⟩
   ·by_cases hm:m=0
    ·have:=k4.2 ⟨rfl,hm⟩
     subst this
     simp [Value.ownBlock] at hb
    ·have hr:=run_append_nil (P:=P) w t ty e i z ht hi hz aa m c news (by rw [hsize];exact hl) (hnews aa rfl) (by omega) (by omega) (by simp only [Nat.zero_add] at hbytes;omega)
     rw [k1] at hr
     injection hr with hr _
     subst hr
     right
     have:w.heap.size=b:=by simpa [Value.ownBlock] using hb
     omega
   ·by_cases hroom:n+m≤cap
    ·obtain ⟨w2,hr,_⟩:=run_append_fits (P:=P) w 0 t ty e i size ht hi hsize g n cap xs hown aa m c news hl (hnews aa rfl) h1 hroom
     rw [k1] at hr
     injection hr with hr _
     subst hr
     left
     simpa [Value.ownBlock] using hb
    ·have hr:=run_append_grow (P:=P) w t ty e i z ht hi hz ⟨g,0,none⟩ n cap xs (by rw [hsize];exact hown.1) (hown.cells (g:=g) rfl) aa m c news (by rw [hsize];exact hl) (hnews aa rfl) (by omega) (by omega) (growslice_fits (by omega) hbytes)
     rw [k1] at hr
     injection hr with hr _
     subst hr
     right
     have:w.heap.size=b:=by simpa [Value.ownBlock] using hb
     omega
  ·rcases k2.2 with ⟨rfl,_⟩ | ⟨g,cap,cur,rfl,_⟩<;>exact ⟨_,_,_,rfl⟩
  ·rcases hown.2 with ⟨rfl,rfl⟩ | ⟨g,cap,cur,rfl,hbg,hg,hnc,hcm,hcs,htake⟩
   ·cases hb
   ·have hgb:g=b:=by injection hb
    subst hgb
    by_cases hroom:n+m≤cap
    ·obtain ⟨w2,hr,_⟩:=run_append_fits (P:=P) w 0 t ty e i size ht hi hsize g n cap xs hown aa m c news hl (hnews aa rfl) h1 hroom
     rw [k1] at hr
     injection hr with hr _
     subst hr
     exact k2.wr rfl
    ·have hr:=run_append_grow (P:=P) w t ty e i z ht hi hz ⟨g,0,none⟩ n cap xs (by rw [hsize];exact hown.1) (hown.cells (g:=g) rfl) aa m c news (by rw [hsize];exact hl) (hnews aa rfl) (by omega) (by omega) (growslice_fits (by omega) hbytes)
     rw [k1] at hr
     injection hr with _ hr
     subst hr
     have hlt:g<w.heap.size:=by
      rcases Nat.lt_or_ge g w.heap.size with h' | h'
      ·exact h'
      ·rw [Array.getElem?_eq_none h'] at hg;cases hg
     exact ⟨_,_,(heap_alloc_old w.drew _ g hlt).trans hg⟩
theorem xdf {t elem:TypeId} {x y:Operand} {e:TI} {k:Fr→Prop} {kd:RK} {D:List Nat} {v:Value} {rowsX rowsY:List (List PV)} {xs news:List Value} {N0 NY:List Nat} {ad:Option Addr} {c:Nat} (hT:xaz P T) (h:St w0 G F a w)
 (hop:o.op=.call { callee:=.builtin .append,args:=#[x,y],argTypes:=#[t,t] }) (ht:P.underlying t=some (.slice elem)) (he:lk T.ti elem=some e) (hvx:a.eval x=v) (hvy:a.eval y=.slice ad rowsY.length c)
 (hown:w.ownsRow 0 elem e.size v rowsX.length xs) (hX:xak w rowsX.flatten xs N0) (lX:∀q∈rowsX,q.length=e.size) (hY:xak w rowsY.flatten news NY) (lY:∀q∈rowsY,q.length=e.size)
 (hcells:∀aa,ad=some aa→∀j u,news[j]? = some u→w.cell? (aa.add j)=some u) (hnone:ad=none→rowsY.length=0) (hbound:rowsX.length+rowsY.length<1073741824)
 (hvo:∀b,v.ownBlock=some b→∃q∈D,G.own b=some q) (hN:∀x∈N0++NY,v.ownBlock≠some x∧((∃q∈D,G.own x=some q)∨(kd=.flat∧G.S x))) (hkd:kd≠.shared) (hnd:kd=.deep→(N0++NY).Nodup)
 (hD:∀q∈D,lk F.rows q=none∧lk F.boxes q=none) (hk:k (put (newRow F ⟨kd,elem,e.size,.list e.size (rowsX++rowsY)⟩) o.dst (.one (.own F.next)))) {K:Act→World→Prop} {Q:Exit→Act→World→Prop}
 (hK:∀G' F' a' w',St w0 G' F' a' w'→k F'→K a' w'):o.wp P a w K Q:=by
 have hty:=hT.ty _ _ he
 have hsz:=hty.size
 obtain ⟨inf,e1,e2,e3,z,e4,e5⟩:=hty.info
 have hzs:z.cells.size=e.size:=by have:=(xcd.rep (G:=G) (w:=w) e5).len;rw [hty.zlen] at this;simpa using this.symm
 have hnl:news.length=rowsY.length*e.size:=by rw [←hY.len,xcx lY]
 have hby:(rowsX.length+rowsY.length)*inf.bytes≤140737488355328:=by
  have:=Nat.mul_le_mul (Nat.le_of_lt hbound) e3
  omega
 obtain ⟨v',w',k1,k2,k3,k4,k5,k6⟩:=xr9 (P:=P) (ty:=o.type) (c:=c) ht e1 e4 e2 hzs hsz hown hnl hcells hnone hY.one (by simp [maxLen];omega) hby
 let M:Nat→Bool:=fun q=>D.contains q
 have hM:∀q,M q=true↔q∈D:=fun q=>by simp [M]
 let dk:Bool:=decide (kd=.deep)
 have hNb:∀x∈N0++NY,x<w.heap.size∧v'.ownBlock≠some x:=by
  intro x hx
  have hlt:x<w.heap.size:=by
   rcases List.mem_append.1 hx with hx | hx
   ·exact hX.bound x hx
   ·exact hY.bound x hx
  refine ⟨hlt,fun e=>?_⟩
  rcases k4 x e with h1 | h1
  ·exact (hN x hx).1 h1
  ·omega
 have hgO:∀x∈N0++NY,∀q∈D,G.own x=some q→xcp G w M F.next dk v' x=if dk=true then some F.next else none:=by
  intro x hx q hq ho
  obtain ⟨h1,h2⟩:=hNb x hx
  simp [xcp,Nat.not_le.2 h1,ho,(hM q).2 hq,h2]
 have hheap:∀x,x<w.heap.size→v.ownBlock≠some x→w'.heap[x]? = w.heap[x]? := fun x h1 h2=>k3.block x h1 (fun e=>h2 e.symm)
 have hok:xbk (G.group w M F.next dk v') w' F.next ⟨kd,elem,e.size,.list e.size (rowsX++rowsY)⟩ v':=by
  refine xdQ hkd ⟨hsz,rowsX++rowsY,xs++news,N0++NY,rfl,fun q hq=>?_,?_,by rw [List.length_append];exact k2,fun b hb=>?_,?_⟩
  ·rcases List.mem_append.1 hq with hq | hq
   ·exact lX q hq
   ·exact lY q hq
  ·rw [List.flatten_append]
   exact (hX.append hY).stable fun x hx=>hheap x (hNb x hx).1 (hN x hx).1
  ·show xcp G w M F.next dk v' b=some F.next
   by_cases hb2:w.heap.size≤b
   ·simp [xcp,hb2,hb]
   ·rcases k4 b hb with h1 | h1
    ·obtain ⟨q,hq,ho⟩:=hvo b h1
     simp [xcp,hb2,ho,(hM q).2 hq,hb]
    ·exact absurd h1 hb2
  ·by_cases hd:kd=.deep
   ·have hdk:dk=true:=by simp [dk,hd]
    simp only [hd,if_true]
    refine ⟨hnd hd,fun x hx=>⟨?_,(hNb x hx).2⟩⟩
    rcases (hN x hx).2 with ⟨q,hq,ho⟩ | ⟨h1,_⟩
    ·exact (hgO x hx q hq ho).trans (if_pos hdk)
    ·rw [hd] at h1;cases h1
   ·have hdk:dk=false:=by simp [dk,hd]
    simp only [hd,if_false]
    intro x hx
    rcases (hN x hx).2 with ⟨q,hq,ho⟩ | ⟨_,h1⟩
    ·exact .inr ⟨by rw [ho];simp,(hgO x hx q hq ho).trans (if_neg (by simp [hdk]))⟩
    ·exact .inl h1
 have hfree:=h.free F.next (Nat.le_refl _)
 have hbn:lk F.boxes F.next=none:=by
  cases hb:lk F.boxes F.next with
  | none=>rfl
  | some c=>have:=h.kbox _ c hb;omega
 have hlt':∀b,v'.ownBlock=some b→b<w'.heap.size:=fun b hb=>(k2.lt b hb).2
 obtain ⟨hfin,_⟩:=h.group (M:=M) (t:=F.next) (nx:=F.next+1) (deep:=dk) (v:=v') (r:=⟨kd,elem,e.size,.list e.size (rowsX++rowsY)⟩) (w':=w') k3.os k3.tape k3.output k3.size v.ownBlock (fun b e=>by
  obtain ⟨q,hq,ho⟩:=hvo b e;exact ⟨q,ho,(hM q).2 hq⟩)
  (fun x h1 h2=>hheap x h1 h2) (fun q hm _=>(hD q ((hM q).1 hm)).1) (fun k' cs hb=>by
   cases hm:M k' with
   | false=>rfl
   | true=>rw [(hD k' ((hM k').1 hm)).2] at hb;cases hb) hbn (by omega) (by omega) (.inl hfree.1) (.inl (Nat.le_refl _)) k5 (fun b hb=>⟨hlt' b hb,by
   rcases k4 b hb with h1 | h1
   ·obtain ⟨q,hq,ho⟩:=hvo b h1;exact .inr ⟨q,ho,(hM q).2 hq⟩
   ·exact .inl h1⟩) (fun b hb=>k6 b hb) hkd hok
 have hval:(execOp a.eval o).run P w=.ok (.value v') w':=by
  have:(execOp a.eval o).run P w=((do pure (Next.value (←Builtin.append_ #[t,t] o.type #[v,.slice ad rowsY.length c])):Sem Next)).run P w:=by
   simp [execOp,hop,resolve,invoke,builtin,hvx,hvy]
  rw [this,Sem.run_bind,k1]
  rfl
 refine xbv hval (hK _ _ _ _ (St.put hfin o.dst (tv:=.one (.own F.next)) ?_) hk)
 show (if F.next=F.next then some v' else _)=some v'
 rw [if_pos rfl]
end
end Go.Ev
