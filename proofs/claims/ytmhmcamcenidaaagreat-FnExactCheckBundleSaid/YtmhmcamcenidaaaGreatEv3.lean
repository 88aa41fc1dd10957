/- An evaluator of pure values over the code of the model, proved sound, part 3. -/
import Derived.Test.YtmhmcamcenidaaaGreatEv2
import Derived.LoopN
set_option linter.unusedVariables false
set_option linter.unusedSimpArgs false
/- append: what is asked of it, against the machine. -/
namespace Go.Ev
open Go.RowKit
section
variable {P : Program} {T : Tab} {o : Oper} {F : Fr} {w0 : Base} {G : Gh} {a : Act} {w : World}
structure xt8 (G:Gh) (F:Fr) (w:World) (v:Value) (elem:TypeId) (sz:Nat) (kind:RK) (D0:List Nat) (rowsX:List (List PV)) (xs:List Value) (N0:List Nat):Prop where
 own:w.ownsRow 0 elem sz v rowsX.length xs
 rep:xak w rowsX.flatten xs N0
 len:∀q∈rowsX,q.length=sz
 vo:∀b,v.ownBlock=some b→∃q∈D0,G.own b=some q
 nn:∀x∈N0,v.ownBlock≠some x∧((∃q∈D0,G.own x=some q)∨(kind=.flat∧G.S x))
 nd:kind=.deep→N0.Nodup
 ns:kind≠.shared
 dd:∀q∈D0,lk F.rows q=none∧lk F.boxes q=none
theorem xhf {sz:Nat} {rowsX:List (List PV)} {y:PV} {k:PV→Prop} (h:xbd sz (.list sz rowsX) y k):∃more,y=.list sz more∧rowsX.length+more.length<1073741824∧k (.list sz (rowsX++more)):=by
 unfold xbd at h
 split at h
 ·rename_i heq
  injection heq with h1 h2
  subst h1;subst h2
  obtain ⟨_,rfl,h3,h4⟩:=h
  exact ⟨_,rfl,h3,h4⟩
 ·exact h.elim
theorem xo0 {S:Nat→Prop} {sz:Nat} {rows:List (List PV)} {v:Value} (h:xbp S w [.list sz rows] [v]) (hf:xaZ (.list sz rows)) :
 ∃ad c news,v=.slice ad rows.length c∧xak w rows.flatten news []∧(∀q∈rows,q.length=sz)∧(∀aa,ad=some aa→∀j u,news[j]? = some u→w.cell? (aa.add j)=some u)∧(ad=none→rows.length=0):=by
 obtain ⟨ad,c,news,NY,h1,h2,h3,h4,h5,_⟩:=xfQ h
 have:NY=[]:=xak.flat_nil (fun p hp=>by
  obtain ⟨r,hr,hp⟩:=List.mem_flatten.1 hp
  exact hf r hr p hp) h2
 subst this
 exact ⟨ad,c,news,h1,h2,h3,h4,h5⟩
theorem xq4 {t:TypeId} {x y:Operand} {i e:TI} {cy:Cell} {kind:RK} {D0:List Nat} {v:Value} {rowsX:List (List PV)} {xs:List Value} {N0:List Nat} {k:Fr→Prop} (hT:xaz P T) (h:St w0 G F a w)
 (hop:o.op=.call { callee:=.builtin .append,args:=#[x,y],argTypes:=#[t,t] }) (ht:P.underlying t=some (.slice i.elem)) (he:lk T.ti i.elem=some e) (hvx:a.eval x=v) (hb:xt8 G F w v i.elem e.size kind D0 rowsX xs N0) (hcy:xdb G w cy (a.eval y))
 (hk:xqF T o.dst i cy k (.list e.size rowsX) kind F) {K:Act→World→Prop} {Q:Exit→Act→World→Prop}
 (hK:∀G' F' a' w',St w0 G' F' a' w'→k F'→K a' w'):o.wp P a w K Q:=by
 have hes:T.sz i.elem=e.size:=by simp [Tab.sz,he]
 unfold xqF at hk
 simp only [hes] at hk
 have hwf:kind.with false≠.shared∧(kind.with false=.deep→False):=by
  have:=hb.ns
  cases kind<;>simp [RK.with] at this ⊢
 have plainCase:∀{p:PV},xa5 F cy=some p→xaZ p→(xbd e.size (.list e.size rowsX) p fun r=>k (put (newRow F ⟨kind,i.elem,e.size,r⟩) o.dst (.one (.own F.next))))→o.wp P a w K Q:=by
  intro p hp hf hc
  obtain ⟨more,rfl,hbd,hk'⟩:=xhf hc
  obtain ⟨ad,c,news,r1,r2,r3,r4,r5⟩:=xo0 (xde h.rel hp hcy) hf
  exact xdf hT h hop ht he hvx r1 hb.own hb.rep hb.len r2 r3 r4 r5 hbd hb.vo (by simpa using hb.nn) hb.ns (fun hd=>by simpa using hb.nd hd) hb.dd hk' hK
 have sharedCase:∀{F1:Fr} {G1:Gh} {more:List (List PV)},St w0 G1 F1 a w→xfg G G1→(∀x q,G.own x=some q→q∈D0→G1.own x=some q)→(∀q∈D0,lk F1.rows q=none∧lk F1.boxes q=none)→xbp G1.S w [.list e.size more] [a.eval y]→rowsX.length+more.length<1073741824 →
  k (put (newRow F1 ⟨kind.with false,i.elem,e.size,.list e.size (rowsX++more)⟩) o.dst (.one (.own F1.next)))→o.wp P a w K Q:=by
  intro F1 G1 more hS1 hG1 hown1 hd1 hrep hbd hk'
  obtain ⟨ad,c,news,NY,r1,r2,r3,r4,r5,r6⟩:=xfQ hrep
  refine xdf hT hS1 hop ht he hvx r1 hb.own hb.rep hb.len r2 r3 r4 r5 hbd (fun b hb'=>?_) (fun x hx=>?_) hwf.1 (fun hd=>(hwf.2 hd).elim) hd1 hk' hK
  ·obtain ⟨q,hq,ho⟩:=hb.vo b hb';exact ⟨q,hq,hown1 b q ho hq⟩
  ·rcases List.mem_append.1 hx with hx | hx
   ·obtain ⟨m1,m2⟩:=hb.nn x hx
    refine ⟨m1,?_⟩
    rcases m2 with ⟨q,hq,ho⟩ | ⟨hkf,m2⟩
    ·exact .inl ⟨q,hq,hown1 x q ho hq⟩
    ·exact .inr ⟨by rw [hkf];rfl,hG1.S x m2⟩
   ·have hs:=r6 x hx
    have hns:=hb.ns
    refine ⟨fun hvb=>?_,.inr ⟨?_,hs⟩⟩
    ·obtain ⟨q,hq,ho⟩:=hb.vo x hvb
     have:=hown1 x q ho hq
     rw [(hS1.rel.stb x hs).1] at this
     cases this
    ·cases kind<;>simp [RK.with] at hns ⊢
 by_cases hcown:∃idy,cy=.own idy
 ·obtain ⟨idy,rfl⟩:=hcown
  simp only at hk
  split at hk
  ·rename_i yr hyr
   have hidy:idy∉D0:=fun hm=>by have:=(hb.dd idy hm).1;rw [hyr] at this;cases this
   have hcell:xa5 F (.own idy)=some yr.e:=by simp [xa5,hyr]
   split at hk
   ·rename_i hdeep
    obtain ⟨more,he',hbd,hk'⟩:=xhf hk
    obtain ⟨hs0,rowsY,news,NY,hre,lY,hvv,hown,hbo,hkk⟩:=xdj (by rw [hdeep];intro h;cases h) (h.rel.rows idy yr _ hyr hcy)
    rw [he'] at hre
    injection hre with hre1 hre2
    subst hre2
    rw [←hre1] at lY hown
    rw [if_pos hdeep] at hkk
    have hS1:=h.drop idy
    have hval:∃ad c,a.eval y=.slice ad more.length c∧(∀aa,ad=some aa→∀j u,news[j]? = some u→w.cell? (aa.add j)=some u)∧(ad=none→more.length=0):=by
     rcases hown.2 with ⟨hv,h0⟩ | ⟨g,cap,cur,hv,_,hh,hn,hm,hc,htk⟩
     ·exact ⟨none,0,by rw [hv,h0],fun aa e=>(by cases e),fun _=>h0⟩
     ·refine ⟨some ⟨g,0,none⟩,cap,hv,fun aa e j u hj=>?_,fun e=>by cases e⟩
      injection e with e
      subst e
      rw [xeL,Nat.zero_add]
      rw [hv] at hown
      have hlt:j<more.length*e.size:=by
       have:=hown.1
       rcases Nat.lt_or_ge j news.length with h' | h'
       ·omega
       ·simp [List.getElem?_eq_none h'] at hj
      rw [hown.cellAt j hlt];exact hj
    obtain ⟨ad,c,r1,r4,r5⟩:=hval
    refine xdf (D:=idy::D0) hT hS1 hop ht he hvx r1 hb.own hb.rep hb.len hvv lY r4 r5 hbd (fun b hb'=>?_) (fun x hx=>?_) hb.ns (fun hd=>?_) (fun q hq=>?_) hk' hK
    ·obtain ⟨q,hq,ho⟩:=hb.vo b hb';exact ⟨q,by simp [hq],ho⟩
    ·rcases List.mem_append.1 hx with hx | hx
     ·obtain ⟨m1,m2⟩:=hb.nn x hx
      refine ⟨m1,?_⟩
      rcases m2 with ⟨q,hq,ho⟩ | m2
      ·exact .inl ⟨q,by simp [hq],ho⟩
      ·exact .inr m2
     ·refine ⟨fun hvb=>?_,.inl ⟨idy,by simp,(hkk.2 x hx).1⟩⟩
      obtain ⟨q,hq,ho⟩:=hb.vo x hvb
      rw [(hkk.2 x hx).1] at ho
      injection ho with ho
      subst ho
      exact hidy hq
    ·rw [List.nodup_append]
     refine ⟨hb.nd hd,hkk.1,fun x hx z hz hxz=>?_⟩
     subst hxz
     rcases (hb.nn x hx).2 with ⟨q,hq,ho⟩ | ⟨hf,_⟩
     ·rw [(hkk.2 x hz).1] at ho
      injection ho with ho
      subst ho
      exact hidy hq
     ·rw [hd] at hf;cases hf
    ·rcases List.mem_cons.1 hq with rfl | hq
     ·refine ⟨by rw [xcA,if_pos rfl],?_⟩
      cases hbx:lk F.boxes q with
      | none=>exact hbx
      | some cs=>exact (h.kdis q yr cs hyr hbx).elim
     ·obtain ⟨m1,m2⟩:=hb.dd q hq
      refine ⟨?_,m2⟩
      rw [xcA]
      split
      ·rfl
      ·exact m1
   ·split at hk
    ·exact plainCase hcell hk.1 hk.2
    ·obtain ⟨more,he',hbd,hk'⟩:=xhf hk
     obtain ⟨G1,k1,k2,r',k3,k4,k5,_,_,kb,kown⟩:=h.share idy hyr
     obtain ⟨t1,t2,t3,t4⟩:=xdN F idy
     have hrow:=k2.row _ _ hcy
     have h2:=k1.rel.rows idy r' _ k3 hrow
     unfold xbk at h2
     rw [k4,k5,he'] at h2
     refine sharedCase k1 k2 (fun x q ho hq=>kown x q ho (fun e=>hidy (by rw [←e];exact hq))) (fun q hq=>?_) h2 hbd (by rw [t3];exact hk')
     obtain ⟨m1,m2⟩:=hb.dd q hq
     refine ⟨?_,by rw [t2];exact m2⟩
     have hqi:¬idy=q:=fun e=>hidy (by rw [e];exact hq)
     unfold share
     rw [hyr]
     simp only
     split
     ·exact m1
     ·simp only [setRow,xas];rw [if_neg hqi];exact m1
  ·exact hk.elim
 ·have hk2:match xa5 F cy with
   | some y=>if T.plain i.elem=true then xaZ y∧xbd e.size (.list e.size rowsX) y fun r=>k (put (newRow F ⟨kind,i.elem,e.size,r⟩) o.dst (.one (.own F.next)))
    else xbd e.size (.list e.size rowsX) y fun r=>k (put (newRow F ⟨kind.with false,i.elem,e.size,r⟩) o.dst (.one (.own F.next)))
   | none=>False:=by
   cases cy<;>first | exact hk | exact absurd ⟨_,rfl⟩ hcown
  split at hk2
  ·rename_i p hp
   split at hk2
   ·exact plainCase hp hk2.1 hk2.2
   ·obtain ⟨more,he',hbd,hk'⟩:=xhf hk2
    subst he'
    refine sharedCase h (.refl G) (fun x q ho _=>ho) hb.dd ?_ hbd hk'
    cases cy<;>simp only [xa5] at hp<;>first | (cases hp;done) | skip
    ·injection hp with hp;subst hp;exact hcy
    ·injection hp with hp;injection hp with hp1 hp2;subst hp2
     have:a.eval y=.slice none 0 0:=hcy
     rw [this]
     exact ⟨[],.lnil .nil,by simp⟩
    ·exact absurd ⟨_,rfl⟩ hcown
  ·exact hk2.elim
theorem xrD {t:TypeId} {x y:Operand} {i:TI} {cx cy:Cell} {k:Fr→Prop} (hT:xaz P T) (h:St w0 G F a w) (hop:o.op=.call { callee:=.builtin .append,args:=#[x,y],argTypes:=#[t,t] }) (hi:lk T.ti t=some i) (h0:T.sz i.elem≠0)
 (ex:opnd T F t x=some (.one cx)) (ey:opnd T F t y=some (.one cy)) (hk:xuO T F o.dst i cx cy k) {K:Act→World→Prop} {Q:Exit→Act→World→Prop}
 (hK:∀G' F' a' w',St w0 G' F' a' w'→k F'→K a' w'):o.wp P a w K Q:=by
 obtain ⟨e,he⟩:=xg3 h0
 have hes:T.sz i.elem=e.size:=by simp [Tab.sz,he]
 have he0:i.elem≠0:=by intro h;rw [h,hT.zero] at he;cases he
 have ht:=(hT.ty t i hi).slice he0
 have hvx:=h.rel.eval T t x _ ex
 have hcy:xdb G w cy (a.eval y):=h.rel.eval T t y _ ey
 unfold xuO at hk
 simp only [hes] at hk
 split at hk
 ·have hv:a.eval x=.slice none 0 0:=hvx
  exact xq4 (kind:=.deep) (D0:=[]) (rowsX:=[]) (xs:=[]) (N0:=[]) hT h hop ht he hv ⟨World.ownsRow_nil _ _ _ _,.nil,by simp,fun b hb=>by simp [Value.ownBlock] at hb,by simp,by simp,(by intro h;cases h),by simp⟩ hcy hk hK
 ·rename_i id
  split at hk
  ·rename_i r hr
   split at hk
   ·rename_i hc
    obtain ⟨hkd,hsz,hel⟩:=hc
    have hrow:G.row id=some (a.eval x):=hvx
    obtain ⟨hs0,rows,xs,N,hre,hl,hvv,hown,hbo,hkk⟩:=xdj hkd (h.rel.rows id r _ hr hrow)
    rw [hsz] at hl hown hre
    rw [hel] at hown
    rw [hre] at hk
    have hS1:=h.drop id
    have hbx:lk F.boxes id=none:=by
     cases hbx:lk F.boxes id with
     | none=>rfl
     | some cs=>exact (h.kdis id r cs hr hbx).elim
    refine xq4 (kind:=r.kind) (D0:=[id]) hT hS1 hop ht he rfl ⟨hown,hvv,hl,fun b hb=>⟨id,by simp,hbo b hb⟩,fun z hz=>?_,fun hd=>?_,hkd,fun q hq=>?_⟩ hcy hk hK
    ·by_cases hd:r.kind=.deep
     ·rw [if_pos hd] at hkk
      exact ⟨(hkk.2 z hz).2,.inl ⟨id,by simp,(hkk.2 z hz).1⟩⟩
     ·rw [if_neg hd] at hkk
      have hs:=hkk z hz
      refine ⟨fun hb=>?_,.inr ⟨?_,hs⟩⟩
      ·have:=hbo z hb
       rw [(h.rel.stb z hs).1] at this
       cases this
      ·cases hq:r.kind with
       | deep=>exact absurd hq hd
       | flat=>rfl
       | shared=>exact absurd hq hkd
    ·rw [if_pos hd] at hkk
     exact hkk.1
    ·simp at hq
     subst hq
     exact ⟨by rw [xcA,if_pos rfl],hbx⟩
   ·exact hk.elim
  ·exact hk.elim
 ·exact hk.elim
end
end Go.Ev
/- The operations one after the other: all of them. -/
namespace Go.Ev
open Go.RowKit
section
variable {P : Program} {T : Tab} {C : Orac} {o : Oper} {F : Fr} {w0 : Base} {G : Gh} {a : Act} {w : World}
theorem St.undeep (h:St w0 G F a w) {id:Nat} {r:Row} (hr:lk F.rows id=some r) (hk:r.kind=.deep):∃G',St w0 G' (setRow F id { r with kind:=.flat }) a w:=by
 cases hrow:G.row id with
 | none =>
  refine ⟨G,⟨h.rel.below,h.rel.defers,h.rel.size,h.rel.tmps,h.rel.boxes,fun i r' v e1 e2=>?_,h.rel.stb,h.rel.own,h.rel.rowv,h.rel.sub,h.rel.wr,h.rel.out⟩,h.free,fun i r' e=>?_,h.kbox,fun i r' c e e'=>?_⟩
  ·simp only [setRow,xas] at e1
   split at e1
   ·rename_i hi;subst hi;rw [hrow] at e2;cases e2
   ·exact h.rel.rows i r' v e1 e2
  ·simp only [setRow,xas] at e
   split at e
   ·rename_i hi;subst hi;exact h.krow id r hr
   ·exact h.krow i r' e
  ·simp only [setRow,xas] at e
   split at e
   ·rename_i hi;subst hi;exact h.kdis id r c hr e'
   ·exact h.kdis i r' c e e'
 | some v =>
  have hok:=h.rel.rows id r v hr hrow
  obtain ⟨hs0,rows,xs,N,hre,hl,hvv,hown,hbo,hkk⟩:=xdj (by rw [hk];intro h;cases h) hok
  rw [if_pos hk] at hkk
  let M:Nat→Bool:=fun q=>decide (q=id)
  have hbx:lk F.boxes id=none:=by
   cases hbx:lk F.boxes id with
   | none=>rfl
   | some cs=>exact (h.kdis id r cs hr hbx).elim
  have hok':xbk (G.group w M id false v) w id { r with kind:=.flat } v:=by
   refine xdQ (by intro h;cases h) ⟨hs0,rows,xs,N,hre,hl,hvv,hown,fun b hb=>?_,?_⟩
   ·have ho:=hbo b hb
    have hlt:=(h.rel.own b id ho).2
    show xcp G w M id false v b=some id
    simp [xcp,Nat.not_le.2 hlt,ho,M,hb]
   ·have hne:¬(RK.flat=RK.deep):=by intro h;cases h
    simp only [hne,if_false]
    intro x hx
    obtain ⟨m1,m2⟩:=hkk.2 x hx
    have hlt:=(h.rel.own x id m1).2
    exact .inr ⟨by rw [m1];simp,by simp [xcp,Nat.not_le.2 hlt,m1,M,m2]⟩
  obtain ⟨hfin,_⟩:=h.group (M:=M) (t:=id) (nx:=F.next) (deep:=false) (v:=v) (r:={ r with kind:=.flat }) (w':=w) rfl rfl rfl (Nat.le_refl _) none (fun b e=>by cases e) (fun _ _ _=>rfl)
   (fun q hm hq=>by simp [M] at hm;exact absurd hm hq) (fun k' cs hb=>by
    cases hm:M k' with
    | false=>rfl
    | true=>simp [M] at hm;subst hm;rw [hbx] at hb;cases hb) hbx (Nat.le_refl _) (h.krow id r hr) (.inr hrow) (.inr (by simp [M])) (h.rel.rowv id v hrow) (fun b hb=>by
    have ho:=hbo b hb
    exact ⟨(h.rel.own b id ho).2,.inr ⟨id,ho,by simp [M]⟩⟩) (fun b e=>by cases e) (by simp) hok'
  exact ⟨_,hfin⟩
theorem xoI (f:Row→Row):∀(l:List (Nat×Row)) (i:Nat),lk (l.map fun x=>(x.1,f x.2)) i=(lk l i).map f
 | [],i=>rfl
 | x::l,i=>by
  rw [List.map_cons,xas]
  show _=(lk ((x.1,x.2)::l) i).map f
  rw [xas]
  split
  ·rfl
  ·exact xoI f l i
theorem St.rowsEq {F':Fr} (h:St w0 G F a w) (ht:F'.tmps=F.tmps) (hb:F'.boxes=F.boxes) (hn:F'.next=F.next) (hnt:F'.nt=F.nt) (hp:F'.pin=F.pin) (hr:∀i,lk F'.rows i=lk F.rows i):St w0 G F' a w:=by
 refine ⟨⟨h.rel.below,h.rel.defers,by rw [hnt];exact h.rel.size,by rw [ht];exact h.rel.tmps,by rw [hb];exact h.rel.boxes,fun id r v e1 e2=>h.rel.rows id r v (by rw [←hr];exact e1) e2,h.rel.stb,h.rel.own,h.rel.rowv,h.rel.sub,h.rel.wr,by rw [hp];exact h.rel.out⟩,
  fun id hi=>h.free id (by rw [←hn];exact hi),fun id r e=>by rw [hn];exact h.krow id r (by rw [←hr];exact e),fun id r e=>by rw [hn];exact h.kbox id r (by rw [←hb];exact e),fun id r c e1 e2=>h.kdis id r c (by rw [←hr];exact e1) (by rw [←hb];exact e2)⟩
theorem St.flats (fl:List Nat):∀(l:List Nat) {G:Gh} {F:Fr},St w0 G F a w→∃G' F2,St w0 G' F2 a w∧F2.tmps=F.tmps∧F2.boxes=F.boxes∧F2.next=F.next∧F2.nt=F.nt∧F2.pin=F.pin∧(∀i,i∈l→lk F2.rows i=(lk F.rows i).map (xcR fl))∧∀i,i∉l→lk F2.rows i=lk F.rows i∨lk F2.rows i=(lk F.rows i).map (xcR fl)
 | [],G,F,h=>⟨G,F,h,rfl,rfl,rfl,rfl,rfl,fun i hi=>(nomatch hi),fun i _=>.inl rfl⟩
 | j::l,G,F,h=>by
  obtain ⟨G1,F1,k1,k2,k3,k4,k5,k6,k7,k8⟩:=St.flats fl l h
  have idem:∀r,xcR fl (xcR fl r)=xcR fl r:=by
   intro r
   unfold xcR
   by_cases hc:r.kind=.deep∧fl.contains r.elem=true
   ·rw [if_pos hc,if_neg];intro h';cases h'.1
   ·rw [if_neg hc,if_neg hc]
  have hj:lk F1.rows j=lk F.rows j∨lk F1.rows j=(lk F.rows j).map (xcR fl):=by
   by_cases hm:j∈l
   ·exact .inr (k7 j hm)
   ·exact k8 j hm
  cases hr:lk F1.rows j with
  | none =>
   refine ⟨G1,F1,k1,k2,k3,k4,k5,k6,fun i hi=>?_,fun i hi=>k8 i fun hm=>hi (List.mem_cons_of_mem _ hm)⟩
   rcases List.mem_cons.1 hi with rfl | hi
   ·rcases hj with e | e
    ·rw [hr];rw [hr] at e;rw [←e];rfl
    ·exact e
   ·exact k7 i hi
  | some r =>
   have e2:(lk F.rows j).map (xcR fl)=some (xcR fl r):=by
    rcases hj with e | e
    ·rw [←e,hr];rfl
    ·rw [hr] at e
     rw [←e]
     cases hq:lk F.rows j with
     | none=>rw [hq] at e;cases e
     | some q=>rw [hq] at e;injection e with e;rw [e,idem]
   by_cases hc:r.kind=.deep∧fl.contains r.elem=true
   ·obtain ⟨G2,hS2⟩:=k1.undeep hr hc.1
    have hrow:∀i,lk (setRow F1 j { r with kind:=.flat }).rows i=if j=i then some { r with kind:=.flat } else lk F1.rows i:=fun i=>rfl
    refine ⟨G2,_,hS2,k2,k3,k4,k5,k6,fun i hi=>?_,fun i hi=>?_⟩
    ·rw [hrow]
     split
     ·rename_i hji;subst hji;rw [e2];unfold xcR;rw [if_pos hc]
     ·rename_i hji
      rcases List.mem_cons.1 hi with h' | h'
      ·exact absurd h'.symm hji
      ·exact k7 i h'
    ·have hji:¬j=i:=fun e=>hi (by rw [e];simp)
     rw [hrow,if_neg hji]
     exact k8 i fun hm=>hi (List.mem_cons_of_mem _ hm)
   ·refine ⟨G1,F1,k1,k2,k3,k4,k5,k6,fun i hi=>?_,fun i hi=>k8 i fun hm=>hi (List.mem_cons_of_mem _ hm)⟩
    rcases List.mem_cons.1 hi with rfl | hi
    ·rw [hr,e2];unfold xcR;rw [if_neg hc]
    ·exact k7 i hi
theorem xoJ {α:Type}:∀{l:List (Nat×α)} {i:Nat},i∉l.map (·.1)→lk l i=none
 | [],_,_=>rfl
 | x::l,i,h=>by
  show lk ((x.1,x.2)::l) i=none
  rw [xas,if_neg (fun e=>h (by simp [e]))]
  exact xoJ fun hm=>h (by simp only [List.map_cons,List.mem_cons];exact .inr hm)
theorem St.flatAll (fl:List Nat) (h:St w0 G F a w):∃G',St w0 G' (Ev.flatAll fl F) a w:=by
 obtain ⟨G1,F1,k1,k2,k3,k4,k5,k6,k7,k8⟩:=St.flats fl (F.rows.map (·.1)) h
 refine ⟨G1,k1.rowsEq k2.symm k3.symm k4.symm k5.symm k6.symm fun i=>?_⟩
 show lk (F.rows.map fun x=>(x.1,xcR fl x.2)) i=_
 rw [xoI]
 by_cases hm:i∈F.rows.map (·.1)
 ·exact (k7 i hm).symm
 ·have:=xoJ hm
  rcases k8 i hm with e | e
  ·rw [e,this];rfl
  ·exact e.symm
theorem xgL {H:Fr} {wk:Bool} {fl:List Nat} {keep:List (Nat×Bool)} (h:xmS wk fl keep F=some H) (hS:St w0 G F a w):∃G',St w0 G' H a w:=by
 unfold xmS at h
 split at h
 ·exact xfU h hS.clean
 ·split at h
  ·rename_i H0 h0
   injection h with h
   subst h
   obtain ⟨G1,h1⟩:=xfU h0 hS.clean
   exact h1.flatAll fl
  ·cases h
theorem xn5 {op:BinOp} {t t':TypeId} {x y:Operand} {i:TI} {ca:Cell} {e s:Nat} {p:PV} {neg:Bool} {k:Fr→Prop} (hT:xaz P T) (h:St w0 G F a w) (hop:o.op=.binOp op t x y t') (hi:lk T.ti t=some i) (he:i.elem≠0)
 (ex:opnd T F 0 x=some (.one ca)) (ey:opnd T F 0 y=some (.one (.nil e s))) (hp:xa5 F ca=some p) (hn:op=.eql∧neg=false∨op=.neq∧neg=true) (hk:xpJ neg p fun r=>k (put F o.dst (.one (.pv r))))
 {K:Act→World→Prop} {Q:Exit→Act→World→Prop} (hK:∀G' F' a' w',St w0 G' F' a' w'→k F'→K a' w'):o.wp P a w K Q:=by
 have hvx:=xde h.rel hp (h.rel.eval T 0 x _ ex)
 have hvy:a.eval y=.slice none 0 0:=h.rel.eval T 0 y _ ey
 have ht:=(hT.ty t i hi).slice he
 unfold xpJ at hk
 split at hk
 ·rename_i sz rows
  obtain ⟨ad,cap,hv⟩:=hvx.list_len
  have hemp:ad=none→rows=[]:=by
   intro hz
   subst hz
   obtain ⟨N,hv2,_⟩:=hvx
   rw [hv] at hv2
   cases hv2 with
   | lnil _=>rfl
  have heq:(Op.equal t (.slice ad rows.length cap) (.slice none 0 0)).run P w=.ok ad.isNone w:=by
   have e:Op.equal t (.slice ad rows.length cap) (.slice none 0 0)=Op.equalIn (9999+1) t (.slice ad rows.length cap) (.slice none 0 0):=rfl
   rw [e,Op.equalIn]
   simp only [Sem.run_bind,run_underlying ht,Result.andThen_ok]
   cases ad<;>rfl
  have hg:(eqGuard op t x y (.slice ad rows.length cap) (.slice none 0 0)).run P w=.ok () w:=by
   unfold eqGuard;split<;>simp
  have hrun:(execOp a.eval o).run P w=.ok (.value (.bool (if neg=true then !ad.isNone else ad.isNone))) w:=by
   simp only [execOp,hop,hv,hvy]
   rcases hn with ⟨rfl,rfl⟩ | ⟨rfl,rfl⟩
   ·rw [Sem.run_bind,Sem.run_bind,hg,Result.andThen_ok,show binOp .eql t (.slice ad rows.length cap) (.slice none 0 0)=(do pure (.bool (←Op.equal t (.slice ad rows.length cap) (.slice none 0 0))):Sem Value) from rfl,Sem.run_bind,heq]
    rfl
   ·rw [Sem.run_bind,Sem.run_bind,hg,Result.andThen_ok,show binOp .neq t (.slice ad rows.length cap) (.slice none 0 0)=(do pure (.bool (!(←Op.equal t (.slice ad rows.length cap) (.slice none 0 0)))):Sem Value) from rfl,Sem.run_bind,heq]
    rfl
  refine xbv hrun ?_
  cases ad with
  | none =>
   refine hK _ _ _ _ (h.put o.dst (tv:=.one (.pv (.bool (!neg)))) ?_) (hk.2 (hemp rfl))
   have:(Value.bool (if neg=true then !(none:Option Addr).isNone else (none:Option Addr).isNone))=.bool (!neg):=by cases neg<;>rfl
   rw [this]
   exact xbp.bool
  | some ad =>
   refine hK _ _ _ _ (h.put o.dst (tv:=.one (.pv (.bool neg))) ?_) hk.1
   have:(Value.bool (if neg=true then !(some ad).isNone else (some ad).isNone))=.bool neg:=by cases neg<;>rfl
   rw [this]
   exact xbp.bool
 ·exact hk.elim
theorem xpT {t:TypeId} {x:Operand} {hi:Option Operand} {u:Option Nat} {rows:List (List PV)} {id:Nat} {r:Row} {k:Fr→Prop} (hT:xaz P T) (h:St w0 G F a w) (hop:o.op=.slice t x none hi none) (h0:T.esz t≠0) (ex:opnd T F 0 x=some (.one (.own id))) (hr:lk F.rows id=some r)
 (hkd:r.kind≠.shared) (hsz:r.sz=T.esz t) (hel:r.elem=T.el t) (he:r.e=.list (T.esz t) rows) (hhi:xg1 T F hi u) (h2:u.getD rows.length≤rows.length)
 (hk:k (put (newRow (xcS F id) ⟨r.kind,r.elem,r.sz,.list (T.esz t) (rows.take (u.getD rows.length))⟩) o.dst (.one (.own F.next)))) {K:Act→World→Prop} {Q:Exit→Act→World→Prop}
 (hK:∀G' F' a' w',St w0 G' F' a' w'→k F'→K a' w'):o.wp P a w K Q:=by
 have hrow:G.row id=some (a.eval x):=h.rel.eval T 0 x _ ex
 obtain ⟨hs0,rows',xs,N,hre,hl,hvv,hown,hbo,hkk⟩:=xdj hkd (h.rel.rows id r _ hr hrow)
 rw [he] at hre
 injection hre with _ hre
 subst hre
 obtain ⟨ti,tj,q1,q2,q3,q4⟩:=hT.esz (Nat.pos_of_ne_zero h0)
 have hd:=xj3 q4
 have hel2:P.elem t=ti.elem:=by simp [Program.elem,q4]
 have hszr:(sizeOf (P.elem t)).run P w=.ok (T.esz t) w:=by rw [hel2,xa3 (hT.ty _ _ q2),q3]
 generalize hH:u.getD rows.length=H at h2 hk
 have hS1:=h.drop id
 have hbx:lk F.boxes id=none:=by
  cases hbx:lk F.boxes id with
  | none=>rfl
  | some cs=>exact (h.kdis id r cs hr hbx).elim
 have hvh:=hhi.v (X:=fun _=>True) (.refl _ _) (fun _ _=>trivial) h.rel
 have hval:∃v',(Instr.slice t (a.eval x) none (hi.map a.eval) none).run P w=.ok v' w∧w.ownsRow 0 r.elem r.sz v' (rows.take H).length (xs.take (H*r.sz))∧v'.ownBlock=(a.eval x).ownBlock∧∃ad l c,v'=.slice ad l c:=by
  have hlo:xq0 (none:Option Value) none:=by simp [xq0]
  have hlen:(rows.take H).length=H:=by simp;omega
  rw [hlen]
  have hxl:(xs.take (H*r.sz)).length=H*r.sz:=by
   rw [List.length_take,hown.1,Nat.min_eq_left]
   exact Nat.mul_le_mul_right _ h2
  rcases hown.2 with ⟨hv,hn0⟩ | ⟨g,cap,cur,hv,hb,hg,hc1,hc2,hc3,hc4⟩
  ·have hHz:H=0:=by omega
   subst hHz
   refine ⟨.slice none 0 0,?_,⟨by simp,.inl ⟨rfl,rfl⟩⟩,by rw [hv],_,_,_,rfl⟩
   rw [hv,xhA hd hlo hvh (by rw [hn0] at hH;rw [hH];exact Nat.le_refl _) (by rw [hn0] at hH;rw [hH];exact Nat.le_refl _) (fun _=>Nat.zero_le _),hszr]
   rw [hn0] at hH
   simp only [Option.getD_none,hH]
   rfl
  ·refine ⟨.slice (some ⟨g,0,none⟩) H cap,?_,⟨hxl,.inr ⟨g,cap,cur,rfl,hb,hg,by omega,hc2,hc3,?_⟩⟩,by rw [hv];rfl,_,_,_,rfl⟩
   ·rw [hv,xhA hd hlo hvh (by rw [hH];exact Nat.zero_le _) (by rw [hH];exact h2) (fun _=>hc1),hszr,hH]
    simp [sliced,xeL]
   ·rw [←hc4,List.take_take,Nat.min_eq_left (Nat.mul_le_mul_right _ h2)]
 obtain ⟨v',k1,k2,k3,k5⟩:=hval
 have hvals:∃N',xak w (rows.take H).flatten (xs.take (H*r.sz)) N'∧(∀z∈N',z∈N)∧(N.Nodup→N'.Nodup):=by
  have e:rows.flatten=(rows.take H).flatten++(rows.drop H).flatten:=by rw [←List.flatten_append,List.take_append_drop]
  rw [e] at hvv
  obtain ⟨v1,v2,N1,N2,e1,e2,m1,m2⟩:=xak.split _ _ hvv
  have hl1:v1.length=H*r.sz:=by
   rw [←m1.len,xcx (sz:=r.sz) (fun q hq=>hl q (List.mem_of_mem_take hq))]
   rw [List.length_take,Nat.min_eq_left h2]
  refine ⟨N1,?_,fun z hz=>by rw [e2];simp [hz],fun hn=>by rw [e2] at hn;exact (List.nodup_append.1 hn).1⟩
  rw [e1,List.take_left' hl1]
  exact m1
 obtain ⟨N',n1,n2,n3⟩:=hvals
 let M:Nat→Bool:=fun q=>[id].contains q
 have hM:∀q,M q=true↔q=id:=fun q=>by simp [M]
 let dk:Bool:=decide (r.kind=.deep)
 have hbs:∀b,v'.ownBlock=some b→G.own b=some id∧b<w.heap.size:=by
  intro b hb
  rw [k3] at hb
  have ho:=hbo b hb
  exact ⟨ho,(h.rel.own b id ho).2⟩
 have hNb:∀z∈N',z<w.heap.size:=fun z hz=>n1.bound z hz
 have hok:xbk (G.group w M F.next dk v') w F.next ⟨r.kind,r.elem,r.sz,.list (T.esz t) (rows.take H)⟩ v':=by
  refine xdQ hkd ⟨hs0,rows.take H,xs.take (H*r.sz),N',by rw [hsz],fun q hq=>hl q (List.mem_of_mem_take hq),n1,k2,fun b hb=>?_,?_⟩
  ·obtain ⟨ho,hlt⟩:=hbs b hb
   show xcp G w M F.next dk v' b=some F.next
   simp [xcp,Nat.not_le.2 hlt,ho,(hM id).2 rfl,hb]
  ·by_cases hdp:r.kind=.deep
   ·have hdk:dk=true:=by simp [dk,hdp]
    rw [if_pos hdp] at hkk
    simp only [hdp,if_true]
    refine ⟨n3 hkk.1,fun z hz=>⟨?_,?_⟩⟩
    ·have ho:=(hkk.2 z (n2 z hz)).1
     show xcp G w M F.next dk v' z=some F.next
     simp [xcp,Nat.not_le.2 (hNb z hz),ho,(hM id).2 rfl,hdk]
    ·rw [k3];exact (hkk.2 z (n2 z hz)).2
   ·rw [if_neg hdp] at hkk
    simp only [hdp,if_false]
    intro z hz
    exact .inl (hkk z (n2 z hz))
 have hfree:=h.free F.next (Nat.le_refl _)
 have hbn:lk (xcS F id).boxes F.next=none:=by
  show lk F.boxes F.next=none
  cases hb:lk F.boxes F.next with
  | none=>rfl
  | some c=>have:=h.kbox _ c hb;omega
 obtain ⟨hfin,_⟩:=hS1.group (M:=M) (t:=F.next) (nx:=F.next+1) (deep:=dk) (v:=v') (r:=⟨r.kind,r.elem,r.sz,.list (T.esz t) (rows.take H)⟩) (w':=w) rfl rfl rfl (Nat.le_refl _) none (fun b e=>by cases e)
  (fun x h1 h2=>rfl) (fun q hm _=>by rw [(hM q).1 hm,xcA,if_pos rfl]) (fun k' cs hb=>by
   cases hm:M k' with
   | false=>rfl
   | true =>
    have hb':lk F.boxes k'=some cs:=hb
    rw [(hM k').1 hm,hbx] at hb';cases hb') hbn (Nat.le_succ _) (Nat.lt_succ_self _) (.inl hfree.1) (.inl (Nat.le_refl _)) k5 (fun b hb=>⟨(hbs b hb).2,.inr ⟨id,(hbs b hb).1,(hM id).2 rfl⟩⟩) (fun b e=>by cases e) hkd hok
 refine xbv (v:=v') (w':=w) ?_ (hK _ _ _ _ (St.put hfin o.dst (tv:=.one (.own F.next)) ?_) hk)
 ·simp only [execOp,hop,Option.map_none]
  rw [Sem.run_bind,run_sliceAt_slice _ _ _ _ _ _ hd,k1]
  rfl
 ·show (if F.next=F.next then some v' else _)=some v'
  rw [if_pos rfl]
theorem xlJ {t u ty e:TypeId} {i:TypeInfo} {z:Value} {q:IntKind} (ht:P.underlying t=some (.slice e)) (hu:P.underlying u=some (.int q)) (hi:P.info? e=some i) (hz:i.zero=some z) {k:IntKind} {n:Nat} (h0:0<n) (h63:n<1073741824) (h48:n*i.bytes≤281474976710656) (hsz:0<i.size) :
 (Builtin.append_ #[t,u] ty #[.slice none 0 0,.int k (n:Int)]).run P w =
  .ok (.slice (some ⟨w.heap.size,0,none⟩) n (grownCap w n 0 e)) (w.drew.alloc (.cells (Builtin.zeroCells z.cells n++Builtin.zeroCells z.cells (grownCap w n 0 e-n)) e)):=by
 have hn:n≠0:=by omega
 have hw:IntKind.i64.wrap (n:Int)=(n:Int):=by rw [IntKind.wrap_i64];omega
 have h1:¬((n:Int)<0):=by omega
 have h63':¬(9223372036854775807<(n:Int)):=by omega
 have h48':¬(281474976710656<Builtin.nextslicecap n 0*i.bytes):=by rw [nextslicecap_zero h0];omega
 have h48i:¬((281474976710656:Int)<(n:Int)*(i.bytes:Int)):=by
  have:((n*i.bytes:Nat):Int)≤281474976710656:=by omega
  rw [Int.natCast_mul] at this
  omega
 have hns:n*i.size≠0:=Nat.ne_of_gt (Nat.mul_pos h0 hsz)
 simp [Builtin.append_,run_underlying ht,run_underlying hu,sizeOf,typeInfo,zeroValue,hi,hz,asInt,asIntOf,hw,h1,hn,h63',h48',h48i,hns,Nat.ne_of_gt hsz,Question.forced,run_firstCells_none,Go.newRow,grownCap]
theorem xkt {t u ty e:TypeId} {i:TypeInfo} {q:IntKind} (ht:P.underlying t=some (.slice e)) (hu:P.underlying u=some (.int q)) (hi:P.info? e=some i) {k:IntKind} :
 (Builtin.append_ #[t,u] ty #[.slice none 0 0,.int k 0]).run P w=.ok (.slice none 0 0) w:=by
 have hw:IntKind.i64.wrap 0=0:=by decide
 simp [Builtin.append_,run_underlying ht,run_underlying hu,sizeOf,typeInfo,hi,asInt,asIntOf,hw]
theorem xpU {t u:TypeId} {x y:Operand} {i j e:TI} {z:List PV} {kk:IntKind} {c:Int} {en:TypeId} {es:Nat} {cn:Cell} {k:Fr→Prop} (hT:xaz P T) (hS:St w0 G F a w) (hop:o.op=.call { callee:=.builtin .append,args:=#[x,y],argTypes:=#[t,u] })
 (hi:lk T.ti t=some i) (hj:lk T.ti u=some j) (hjk:j.ik=some .i64) (he:lk T.ti i.elem=some e) (hz:xaI F e.zero=some z) (hl:e.zero.length=e.size)
 (ex:opnd T F t x=some (.one (.nil en es))) (ey:opnd T F 0 y=some (.one cn)) (hn:xbR cn=some (.int kk c)) (h0:0≤c) (hc:c.toNat<1073741824)
 (hk:k (put (newRow F ⟨.deep,i.elem,e.size,.list e.size (List.replicate c.toNat z)⟩) o.dst (.one (.own F.next)))) {K:Act→World→Prop} {Q:Exit→Act→World→Prop}
 (hK:∀G' F' a' w',St w0 G' F' a' w'→k F'→K a' w'):o.wp P a w K Q:=by
 have hx:a.eval x=.slice none 0 0:=hS.rel.eval T t x _ ex
 have hy:=(xaR hn (hS.rel.eval T 0 y _ ey)).int_inv
 have he0:i.elem≠0:=by intro h;rw [h,hT.zero] at he;cases he
 have hty:=hT.ty _ _ he
 obtain ⟨inf,q1,q2,q3,zz,q4,q5⟩:=hty.info
 have hu:=(hT.ty _ _ hj).ik _ hjk
 have ht:=(hT.ty t i hi).slice he0
 have hcast:((c.toNat:Nat):Int)=c:=by omega
 have hbase:(execOp a.eval o).run P w=((do pure (Next.value (←Builtin.append_ #[t,u] o.type #[.slice none 0 0,.int kk c])):Sem Next)).run P w:=by
  simp [execOp,hop,resolve,invoke,builtin,hx,hy]
 by_cases hc0:c.toNat=0
 ·have hcz:c=0:=by omega
  subst hcz
  obtain ⟨G1,hS1,_,_,_,_,_,hrep⟩:=xhc (F:=F) (weak:=false) (c:=.nil i.elem e.size) (c':=.own F.next) (F':=newRow F ⟨.deep,i.elem,e.size,.list e.size []⟩) (by
   simp [xnA,Nat.ne_of_gt hty.size]) hS
  refine xbv (v:=.slice none 0 0) (w':=w) (by rw [hbase,Sem.run_bind,xkt ht hu q1];rfl) (hK _ _ _ _ (St.put hS1 o.dst (tv:=.one (.own F.next)) (hrep _ rfl)) hk)
 ·have hzl:zz.cells.size=e.size:=by have:=(xcd.rep (G:=G) (w:=w) q5).len;rw [hl] at this;simpa using this.symm
  have hmul:c.toNat*inf.bytes≤281474976710656:=by
   have:=Nat.mul_le_mul (Nat.le_of_lt hc) q3
   omega
  refine hS.adds (A:=⟨[(F.next,⟨.deep,i.elem,e.size,.list e.size (List.replicate c.toNat z)⟩)],[],1⟩) (tv:=.one (.own F.next)) ?_ (xmi F _) fun G' a' w' hS'=>hK G' _ a' w' hS' hk
  intro w0 G F2 a w K Q hL hR hF hK
  have hx:a.eval x=.slice none 0 0:=hR.eval T t x _ (xaF hL (fun t ht=>by simp [looks,hop,Op.operands,Call.operands,ht]) ex)
  have hy:=(xaR hn (hR.eval T 0 y _ (xaF hL (fun t ht=>by simp [looks,hop,Op.operands,Call.operands,ht]) ey))).int_inv
  have hr:=xlJ (P:=P) (w:=w) (ty:=o.type) (k:=kk) ht hu q1 q4 (n:=c.toNat) (by omega) hc hmul (by rw [q2];exact hty.size)
  rw [hcast] at hr
  have hge:=grownCap_ge w c.toNat 0 i.elem
  have hcm:grownCap w c.toNat 0 i.elem≤maxLen:=grownCap_le_maxLen w c.toNat 0 i.elem (by simp [maxLen];omega)
  let w':=w.drew.alloc (.cells (Builtin.zeroCells zz.cells c.toNat++Builtin.zeroCells zz.cells (grownCap w c.toNat 0 i.elem-c.toNat)) i.elem)
  have hB:Below w.heap.size w w':=⟨rfl,rfl,rfl,by simp [w'],fun k hk=>heap_alloc_old w.drew _ k hk⟩
  have hzr:xak w' z zz.cells.toList []:=xcD (F:=F) q5 hz
  have hzl':z.length=e.size:=by have:=hzr.len;simp at this;omega
  have hrep:=xd8 hzr c.toNat
  rw [hzl] at hrep
  have hmz:(Builtin.zeroCells zz.cells c.toNat).toList=(madeCells zz.cells (c.toNat*e.size)).toList:=by simp [Builtin.zeroCells,madeCells,hzl]
  obtain ⟨k1,k2⟩:=hR.newRow1 hF (v:=.slice (some ⟨w.heap.size,0,none⟩) c.toNat (grownCap w c.toNat 0 i.elem)) (r:=⟨.deep,i.elem,e.size,.list e.size (List.replicate c.toNat z)⟩) hB (by simp [w']) ⟨_,_,_,rfl⟩ rfl (by simp) (by
   refine ⟨hty.size,List.replicate c.toNat z,_,[],rfl,fun q hq=>by rw [List.eq_of_mem_replicate hq,hzl'],hrep,?_,?_,?_⟩
   ·rw [List.length_replicate,←hmz]
    refine ⟨by simp [Builtin.zeroCells,hzl],.inr ⟨w.heap.size,_,_,rfl,Nat.zero_le _,heap_alloc_new w.drew _,hge,hcm,?_,?_⟩⟩
    ·simp only [Array.size_append,size_zeroCells,hzl,←Nat.add_mul]
     congr 1
     omega
    ·simp only [Array.toList_append]
     have hlen:c.toNat*e.size=(Builtin.zeroCells zz.cells c.toNat).toList.length:=by simp [Builtin.zeroCells,hzl]
     rw [hlen]
     exact List.take_left
   ·intro b hb
    have:w.heap.size=b:=by simpa [Value.ownBlock] using hb
    subst this
    show (if w.heap.size=w.heap.size then _ else _)=_
    rw [if_pos rfl]
   ·simp)
  refine xbv (v:=.slice (some ⟨w.heap.size,0,none⟩) c.toNat (grownCap w c.toNat 0 i.elem)) (w':=w') ?_ (hK _ _ _ k1 ?_ k2)
  ·have hbase:(execOp a.eval o).run P w=((do pure (Next.value (←Builtin.append_ #[t,u] o.type #[.slice none 0 0,.int kk c])):Sem Next)).run P w:=by
    simp [execOp,hop,resolve,invoke,builtin,hx,hy]
   rw [hbase,Sem.run_bind,hr]
   rfl
  ·show (if F.next=F.next then _ else _)=_
   rw [if_pos rfl]
theorem xk7 {G:Gh} {w:World}:∀{vs:List TV} {us:List Value} {i t:Nat} {tv:TV},xcy.RepTs G w vs us→lk (xo5 i vs) t=some tv→∃v,i≤t∧us[t-i]? = some v∧xcy G w tv v
 | [],us,i,t,tv,_,h=>by simp [xo5,lk] at h
 | x::vs,us,i,t,tv,⟨v,r,e,h1,h2⟩,h=>by
  subst e
  simp only [xo5,xas] at h
  split at h
  ·rename_i hit
   injection h with h
   subst h;subst hit
   exact ⟨v,Nat.le_refl _,by simp,h1⟩
  ·obtain ⟨u,k1,k2,k3⟩:=xk7 h2 h
   refine ⟨u,by omega,?_,k3⟩
   rw [show t-i=(t-(i+1))+1 by omega]
   simpa using k2
theorem xkA (hR:Rel w0 G F a w):∀{xs:List Operand} {ts:List TypeId} {vs:List TV},opnds T F xs ts=some vs→xcy.RepTs G w vs (xs.map a.eval)
 | [],_,vs,h=>by injection h with h;subst h;rfl
 | x::xs,ts,vs,h=>by
  simp only [opnds] at h
  split at h
  ·rename_i v r e1 e2
   injection h with h
   subst h
   exact ⟨_,_,rfl,hR.eval T _ x _ e1,xkA hR e2⟩
  ·cases h
theorem xkx {G:Gh} {w:World}:∀{vs:List TV} {us:List Value},xcy.RepTs G w vs us→vs.length=us.length
 | [],us,h=>by have:us=[]:=h;subst this;rfl
 | _::_,_,⟨_,_,e,_,h⟩=>by subst e;simp [xkx h]
theorem xgD {G:Gh} {w:World}:∀{vs vs':List TV} {us us':List Value},xcy.RepTs G w vs us→xcy.RepTs G w vs' us'→xcy.RepTs G w (vs++vs') (us++us')
 | [],_,us,_,h,k=>by have:us=[]:=h;subst this;exact k
 | _::_,_,_,_,⟨v,r,e,h1,h2⟩,k=>by subst e;exact ⟨v,_,rfl,h1,xgD h2 k⟩
theorem xlj {G:Gh} {w:World}:∀{caps:List Cap} {us:List Value},xbD G w caps us→xcy.RepTs G w (caps.map xr7) us
 | [],us,h=>h
 | c::caps,us,⟨v,r,e,h1,h2⟩=>by
  refine ⟨v,r,e,?_,xlj h2⟩
  cases c with
  | box k=>exact h1
  | ro c=>cases c with
   | cells ps=>exact h1
   | fn f q=>exact h1
theorem xoK (pin:List Nat):∀{l:List (Nat×TV)} {t:Nat} {tv:TV},lk (xoU pin l) t=some tv→∃tv',lk l t=some tv'∧tv=xje pin tv'
 | [],t,tv,h=>by cases h
 | x::l,t,tv,h=>by
  have h':lk ((x.1,xje pin x.2)::xoU pin l) t=some tv:=h
  rw [xas] at h'
  show ∃tv',lk ((x.1,x.2)::l) t=some tv'∧_
  rw [xas]
  split at h'
  ·injection h' with h';exact ⟨_,by rw [if_pos (by assumption)],h'.symm⟩
  ·rw [if_neg (by assumption)];exact xoK pin h'
theorem xn8 {p q:List Nat} (h:∀k,p.contains k=true→q.contains k=true):∀{tv:TV},xiS p tv=true→xiS q tv=true:=by
 have hcap:∀c:Cap,xii p c=true→xii q c=true:=fun c hc=>by cases c with
  | box k=>exact h k hc
  | ro _=>rfl
 have hcell:∀c:Cell,xdw p c=true→xdw q c=true:=fun c hc=>by
  cases c with
  | ptr k o=>exact h k hc
  | fn f caps=>exact List.all_eq_true.2 fun x hx=>hcap x (List.all_eq_true.1 hc x hx)
  | own _=>cases hc
  | optr _ _ _ _=>cases hc
  | _=>rfl
 intro tv hv
 cases tv with
 | one c=>exact hcell c hv
 | agg cs=>exact List.all_eq_true.2 fun x hx=>hcell x (List.all_eq_true.1 hv x hx)
 | tup _=>cases hv
 | undef=>rfl
 | mt=>rfl
theorem xio {α:Type}:∀{r:List (Nat×α)} {l:List Nat} {k:Nat},l.contains k=true→(xtw l r).contains k=true
 | [],l,k,h=>h
 | x::r,l,k,h=>by
  simp only [xtw]
  split
  ·exact xio h
  ·exact xio (by simp only [List.contains_cons,Bool.or_eq_true];exact .inr h)
theorem xjg (p:List Nat) (c:Cell):xdw p (xl3 p c)=true:=by
 unfold xl3
 split
 ·assumption
 ·rfl
theorem xl2 (p:List Nat) (tv:TV):xiS p (xje p tv)=true:=by
 cases tv with
 | one c=>exact xjg p c
 | agg cs =>
  refine List.all_eq_true.2 fun x hx=>?_
  obtain ⟨c,_,rfl⟩:=List.mem_map.1 hx
  exact xjg p c
 | tup _=>rfl
 | undef=>rfl
 | mt=>rfl
theorem xkP (hR:Rel w0 G F a w) {p:List Nat} {c:Cell} {v:Value} (h:xdb G w c v):xdb G w (xl3 p c) v:=by
 unfold xl3
 split
 ·exact h
 ·exact xdb.one hR h
theorem xjf (hR:Rel w0 G F a w) {p:List Nat}:∀{cs:List Cell} {vs:List Value},xaN G w cs vs→xaN G w (cs.map (xl3 p)) vs
 | [],_,h=>h
 | _::_,_,⟨v,r,e,h1,h2⟩=>⟨v,r,e,xkP hR h1,xjf hR h2⟩
theorem xnz (hR:Rel w0 G F a w) {p:List Nat} {tv:TV} {v:Value} (h:xcy G w tv v):xcy G w (xje p tv) v:=by
 cases tv with
 | one c=>exact xkP hR h
 | agg cs=>obtain ⟨vs,e,h⟩:=h;exact ⟨vs,e,xjf hR h⟩
 | tup ts=>obtain ⟨vs,e,_⟩:=h;intro b hb;rw [e] at hb;cases hb
 | undef=>exact h
 | mt=>exact h
theorem xrC {c:Call} {x:Operand} {f:FuncId} {caps:List Cap} {nt:Nat} {k:Fr→Prop} (hI:xsX P C.inl) (hS:St w0 G F a w) (hop:o.op=.call c) (hcal:c.callee=.value x) (ex:opnd T F 0 x=some (.one (.fn f caps)))
 (h:xuG C T f nt caps c.args.toList c.argTypes.toList F o.dst k) {K:Act→World→Prop} {Q:Exit→Act→World→Prop}
 (hK:∀G' F' a' w',St w0 G' F' a' w'→k F'→K a' w'):o.wp P a w K Q:=by
 unfold xuG at h
 split at h
 ·rename_i vs hvs
  split at h
  ·rename_i hle
   have hR:=hS.rel
   obtain ⟨⟨fn,hf,hn,hb⟩,hcall⟩:=hI _ _ _ h
   obtain ⟨us,h1,h2⟩:=hR.eval T 0 x _ ex
   have hrun:=xb1 (w:=w) hop hcal h1 hf hn hb
   have hrep:=xgD (xkA hR hvs) (xlj h2)
   have hlen:=xkx hrep
   let w1:Base:={ w0 with outer:=fun tv v=>(∃t tv',lk F.tmps t=some tv'∧a.tmps[t]? = some v∧tv=xje (xoq F) tv')∨w0.outer tv v }
   have hnt:(c.args.toList.map a.eval++us).length≤nt:=by
    rw [←hlen];simpa using hle
   have hin:St w1 G (xrS F nt (vs++caps.map xr7)) { tmps:=(c.args.toList.map a.eval++us).toArray++Array.replicate (nt-(c.args.toList.map a.eval++us).toArray.size) undef,defers:=[] } w:=by
    refine ⟨⟨hR.below,rfl,?_,fun t tv e=>?_,hR.boxes,hR.rows,hR.stb,hR.own,hR.rowv,hR.sub,hR.wr,fun tv v ho=>?_⟩,hS.free,hS.krow,hS.kbox,hS.kdis⟩
    ·simp only [xrS,Array.size_append,Array.size_replicate,List.size_toArray]
     omega
    ·obtain ⟨v,k1,k2,k3⟩:=xk7 hrep e
     refine ⟨v,?_,k3⟩
     have hlt:t<(c.args.toList.map a.eval++us).length:=by
      rcases Nat.lt_or_ge t (c.args.toList.map a.eval++us).length with h' | h'
      ·exact h'
      ·rw [Nat.sub_zero,List.getElem?_eq_none h'] at k2;cases k2
     rw [Array.getElem?_append_left (by simpa using hlt)]
     simpa using k2
    ·rcases ho with ⟨t,tv',e1,e2,rfl⟩ | ho
     ·obtain ⟨u,m1,m2⟩:=hR.tmps t tv' e1
      rw [e2] at m1
      injection m1 with m1
      subst m1
      exact ⟨xnz hR m2,xl2 _ _⟩
     ·have:=hR.out tv v ho
      exact ⟨this.1,xn8 (fun k hk=>xio hk) this.2⟩
   unfold Oper.wp
   rw [hrun]
   refine (hcall w1 G _ w hnt hin).mono fun e w' ⟨v,he,tv,F',G',a',hS',hv,hk⟩=>?_
   subst he
   have hR':=hS'.rel
   have hfin:St w0 G' (xrc F F') a w':=by
    refine ⟨⟨hR'.below,hR.defers,hR.size,fun t tv e=>?_,hR'.boxes,hR'.rows,hR'.stb,hR'.own,hR'.rowv,hR'.sub,hR'.wr,fun tv v ho=>⟨(hR'.out tv v (.inr ho)).1,(hR.out tv v ho).2⟩⟩,hS'.free,hS'.krow,hS'.kbox,hS'.kdis⟩
    obtain ⟨tv',e1,e2⟩:=xoK _ e
    obtain ⟨u,m1,m2⟩:=hR.tmps t tv' e1
    exact ⟨u,m1,(hR'.out tv u (.inl ⟨t,tv',e1,m1,e2⟩)).1⟩
   exact hK _ _ _ _ (hfin.put o.dst hv) hk
  ·exact h.elim
 ·exact h.elim
theorem xlL (hT:xaz P T) (hC:xdx P T C) {k:Fr→Prop} (h:opS C T o F k) (hok:xht T F o=true) (hS:St w0 G F a w) {K:Act→World→Prop} {Q:Exit→Act→World→Prop}
 (hK:∀G' F' a' w',St w0 G' F' a' w'→k F'→K a' w'):o.wp P a w K Q:=by
 by_cases hadd:xbb T F o=true
 ·obtain ⟨A,tv,h1,h2,h3⟩:=xjI hT hC h hadd
  exact hS.adds h2 h3 fun G' a' w' hS'=>hK G' _ a' w' hS' h1
 ·unfold xht at hok
  simp only [hadd,Bool.false_or] at hok
  split at hok
  ·rename_i t x y hop
   unfold opS at h
   rw [hop] at h
   simp only at h
   split at hok
   ·rename_i b off ex
    split at h
    ·rename_i i b' off' v hi ex' ey
     split at h
     ·rename_i cs ns hb hn
      split at h
      ·rename_i hc
       exact xkm hT hS hop hi ex' ey hb hn hc.1 hc.2 fun G' a' w' hS'=>hK G' _ a' w' hS' h
      ·exact h.elim
     ·exact h.elim
    ·rename_i i id sz j off' v hi ex' ey
     rw [ex] at ex';cases ex'
    ·exact h.elim
   ·rename_i id sz j off ex
    split at h
    ·rename_i i b' off' v hi ex' ey
     rw [ex] at ex';cases ex'
    ·rename_i i id' sz' j' off' v hi ex' ey
     split at h
     ·rename_i ns hn
      split at h
      ·rename_i hc
       refine xnm hT hS hop hi ex' ey hn hc.1 (fun hm=>?_) h hK
       have:=List.all_eq_true.1 hc.2.2 _ hm
       simp at this
      ·exact h.elim
     ·exact h.elim
    ·exact h.elim
   ·cases hok
  ·rename_i t x lo hi mx hop
   unfold opS at h
   rw [hop] at h
   simp only at h
   split at hok
   ·rename_i id ex
    split at h
    ·rename_i c ex'
     rw [ex] at ex'
     cases ex'
     obtain ⟨l,h,hl⟩:=xg7 h
     obtain ⟨u,h,hu⟩:=xg7 h
     simp only at h
     split at h
     ·rename_i r hr
      split at h
      ·exact h.elim
      rename_i h0
      split at h
      ·rename_i hmv
       split at h
       ·rename_i hc
        unfold xf8 at h
        split at h
        ·rename_i s rows he
         obtain ⟨hs,h1,h2,h3⟩:=h
         subst hs
         have hlo:lo=none:=by
          cases lo with
          | none=>rfl
          | some _=>simp at hmv
         subst hlo
         exact xpT hT hS hop h0 ex hr hc.1 hc.2.1 hc.2.2 he hu h2 h3 hK
        ·exact h.elim
       ·exact h.elim
      ·unfold xf8 at h
       split at h
       ·rename_i s rows he
        obtain ⟨hs,h1,h2,h3⟩:=h
        subst hs
        exact xpS hT hS hop h0 ex hr he hl hu h1 h2 fun G' a' w' hS'=>hK G' _ a' w' hS' h3
       ·exact h.elim
     ·exact h.elim
    ·exact h.elim
   ·cases hok
  ·rename_i c hop
   split at hok
   ·rename_i x hcal
    unfold opS at h
    rw [hop] at h
    simp only [hcal] at h
    split at h
    ·rename_i f caps ex
     split at h
     ·exact xrC hC.inl hS hop hcal ex h hK
     split at h
     ·rename_i hmk
      unfold xqk at hmk
      split at hmk
      case h_2=>cases hmk
      rename_i sg hsg
      unfold xtj at h
      split at h
      ·rename_i px py t u hl1 hl2
       split at h
       ·rename_i v m i e1 e2 e3
        split at h
        ·rename_i cs hcs
         split at h
         ·rename_i ps hps
          split at h
          case isFalse=>exact h.elim
          rename_i hd
          obtain ⟨hf,out,h1,h2⟩:=h
          exact xpR hT hS hop hcal ex hl1 e1 e2 e3 hcs hps hd hf ((hC.call f sg hsg _ _ h1).2 hmk) h2 hK
         ·exact h.elim
        ·exact h.elim
       ·exact h.elim
      ·exact h.elim
     rename_i hnm
     split at h
     ·rename_i q hq
      unfold xr8 at h
      split at h
      ·rename_i sg hsg
       have hnm':xhT sg=false:=by unfold xqk at hnm;rw [hsg] at hnm;simpa using hnm
       split at h
       ·rename_i hsh
        split at h
        ·rename_i av hav
         obtain ⟨out,h1,h2⟩:=h
         exact hS.adds (A:=⟨xdl F.next out 0 (xaA sg),[],(xaA sg).length⟩) (xmm hop hcal ex hq hav ((hC.call f sg hsg _ _ h1).1 hnm') hsh) (xkb F out _) fun G' a' w' hS'=>hK G' _ a' w' hS' h2
        ·exact h.elim
       ·split at h
        ·rename_i hcp
         split at h
         ·rename_i F1 hF1
          split at h
          ·rename_i has
           split at h
           ·rename_i av hav
            obtain ⟨out,h1,h2⟩:=h
            obtain ⟨⟨G1,hS1⟩,htm⟩:=hS.shareArgs hF1
            have ex1:opnd T F1 0 x=some (.one (.fn f caps)):=by rw [xkB htm];exact ex
            have hcp1:xdv F1 (.fn f caps)=true:=hcp
            have hq1:xcO F1 caps=some q:=by
             have key:∀(caps:List Cap) (q:List RO),(caps.all fun c=>match c with | .ro _=>true | .box _=>false)=true→xcO F caps=some q→xcO F1 caps=some q:=by
              intro caps
              induction caps with
              | nil=>intro q _ h;exact h
              | cons c caps ih =>
               intro q hs h
               cases c with
               | box k=>simp at hs
               | ro cells =>
                simp only [xcO] at h ⊢
                split at h
                ·rename_i q' e;rw [ih q' (by simpa using hs) e];exact h
                ·cases h
             exact key caps q hcp hq
            exact hS1.adds (A:=⟨xdl F1.next out 0 (xaA sg),[],(xaA sg).length⟩) (xmm hop hcal ex1 hq1 hav ((hC.call f sg hsg _ _ h1).1 hnm') (.inr ⟨has,hcp1⟩)) (xkb F1 out _) fun G' a' w' hS'=>hK G' _ a' w' hS' h2
           ·exact h.elim
          ·exact h.elim
         ·exact h.elim
        ·exact h.elim
      ·exact h.elim
     ·exact h.elim
    ·exact h.elim
   ·rename_i hcal
    obtain ⟨cal,args,ats⟩:=c
    simp only at hcal
    subst hcal
    unfold opS at h
    rw [hop] at h
    simp only at h
    split at h
    ·rename_i x y t u e1 e2
     have e3:args=#[x,y]:=Array.ext' (by simpa using e1)
     have e4:ats=#[t,u]:=Array.ext' (by simpa using e2)
     subst e3;subst e4
     split at h
     ·rename_i htu
      subst htu
      split at h
      ·rename_i i cx cy hi ex ey
       split at h
       ·exact h.elim
       ·rename_i h0
        exact xrD hT hS hop hi h0 ex ey h hK
      ·rename_i i p hi ex ey;exfalso;apply hadd;unfold xbb;simp [hop,ex]
      ·exact h.elim
     ·split at h
      ·rename_i i j en es p hi hj ex ey
       split at h
       ·rename_i e he
        split at h
        ·rename_i z hz
         obtain ⟨h1,h2,h3⟩:=h
         unfold xgW at h3
         split at h3
         ·rename_i kk c
          exact xpU hT hS hop hi hj h1 he hz h2 ex ey rfl h3.1 h3.2.1 h3.2.2 hK
         ·exact h3.elim
        ·exact h.elim
       ·exact h.elim
      ·exact h.elim
    ·exact h.elim
   ·cases hok
  ·rename_i t n parts hop
   unfold opS at h
   rw [hop] at h
   simp only at h
   split at h
   ·rename_i i hi
    split at h
    ·rename_i e he
     split at h
     ·rename_i ps hps
      have hne:parts.isEmpty=false:=by
       cases hp:parts.isEmpty with
       | false=>rfl
       | true =>
        exfalso;apply hadd;unfold xbb
        have:parts=#[]:=by simpa using hp
        subst this
        simp [hop,hi,xdR]
      simp only [hne,Bool.false_and,Bool.not_false,Bool.and_true] at h
      exact xiy hT hS hop hi he hps h.1 h.2.1 h.2.2.1 h.2.2.2 hK
     ·exact h.elim
    ·exact h.elim
   ·exact h.elim
  ·rename_i t x hop
   unfold opS at h
   rw [hop] at h
   simp only at h
   split at h
   ·rename_i i b off hi ex;exfalso;apply hadd;unfold xbb;simp [hop,ex]
   ·rename_i i cs hi ex;exfalso;apply hadd;unfold xbb;simp [hop,ex]
   ·rename_i f q ex;exfalso;apply hadd;unfold xbb;simp [hop,ex]
   ·rename_i i id sz j off hi ex
    split at h
    ·rename_i r hr
     split at h
     ·rename_i hc
      unfold xp1 at h
      split at h
      ·rename_i s rows he
       obtain ⟨hs,h⟩:=h
       subst hs
       split at h
       ·rename_i cells hj
        have hnp:r.kind=.deep∧T.plain t=false:=by
         by_cases hd:r.kind=.deep
         ·refine ⟨hd,?_⟩
          cases hp:T.plain t with
          | false=>rfl
          | true=>exfalso;apply hadd;unfold xbb;simp [hop,ex,hr,hp]
         ·exfalso;apply hadd;unfold xbb;simp [hop,ex,hr,hd]
        simp only [hnp.1,hnp.2,if_true,Bool.false_eq_true,if_false] at h
        obtain ⟨G1,hS1⟩:=hS.undeep hr hnp.1
        refine hS1.adds (A:=.none) (tv:=if i.agg=true then .agg ((xbU cells off i.size).map .pv) else .one (.pv (atP cells off))) ?_ (.none _) fun G' a' w' hS'=>hK G' _ a' w' hS' (by rw [Fr.plus_none];exact h)
        exact xke (id:=id) (row:={ r with kind:=.flat }) hT hi hop (by rw [xkB (show (setRow F id { r with kind:=.flat }).tmps=F.tmps from rfl)];exact ex) (by simp [setRow,xas]) hc.1 hc.2 he hj (fun hd=>by cases hd) rfl
       ·exact h.elim
      ·exact h.elim
     ·exact h.elim
    ·exact h.elim
   ·exact h.elim
  ·rename_i op ty x y ty' hop
   have hq:xth T F y=true:=by
    cases hq:xth T F y with
    | true=>rfl
    | false=>exfalso;apply hadd;unfold xbb;simp [hop,hq]
   unfold xth at hq
   split at hq
   ·rename_i e s ey
    unfold opS at h
    rw [hop] at h
    simp only at h
    split at h
    ·rename_i ca cb i ex ey' hi
     rw [ey] at ey'
     cases ey'
     split at h
     ·rename_i hq2 hq1
      simp [xbR] at hq1
     ·simp only at h
      split at h
      ·exact h.elim
      ·rename_i he
       split at h
       ·rename_i p hp
        split at h
        ·exact xn5 (k:=k) hT hS hop hi he ex ey hp (.inl ⟨rfl,rfl⟩) h hK
        ·exact xn5 (k:=k) hT hS hop hi he ex ey hp (.inr ⟨rfl,rfl⟩) h hK
        ·exact h.elim
       ·exact h.elim
    ·rename_i ca cb i ex ey' hi
     rw [ey] at ey'
     cases ey'
    ·exact h.elim
   ·cases hq
  ·cases hok
theorem xhl {all:Array Oper} (hS:St w0 G F a w) {b:Bool} {F1:Fr} (hg:xb2 all.toList F o b F1):Region.wanted o (yielded all a.tmps)=b∧St w0 G F1 a w:=by
 unfold xb2 at hg
 unfold Region.wanted
 split at hg
 ·rename_i hgd;obtain ⟨rfl,rfl⟩:=hg;rw [hgd];exact ⟨rfl,hS⟩
 ·rename_i j want hgd
  rw [hgd]
  obtain ⟨oj,d,h1,h2,h34⟩:=hg
  have hoj:all[j]? = some oj:=by rw [←Array.getElem?_toList];exact h1
  rcases h34 with ⟨t,h3,h4⟩ | ⟨h3,rfl,rfl⟩
  rotate_left
  ·obtain ⟨v,k1,k2⟩:=hS.rel.tmps d _ h3
   have:yielded all a.tmps j=none:=by
    unfold yielded
    simp only [hoj,h2,Option.bind_some,k1]
    cases v<;>first | rfl | exact absurd rfl (k2 _)
   refine ⟨?_,hS⟩
   show (yielded all a.tmps j==some want)=false
   rw [this];rfl
  have hv:∃v,a.tmps[d]? = some v∧v=.bool t:=by
   rcases h3 with ⟨h3,_⟩ | ⟨h3,_⟩
   ·obtain ⟨v,k1,k2⟩:=hS.rel.tmps d _ h3;exact ⟨v,k1,k2⟩
   ·obtain ⟨v,k1,k2⟩:=hS.rel.tmps d _ h3;exact ⟨v,k1,xbp.bool_inv k2⟩
  obtain ⟨v,hv1,rfl⟩:=hv
  refine ⟨?_,?_⟩
  ·have:yielded all a.tmps j=some t:=by simp [yielded,hoj,h2,hv1]
   show (yielded all a.tmps j==some want)=b
   rw [this,h4]
   cases t<;>cases want<;>rfl
  ·rcases h3 with ⟨_,rfl⟩ | ⟨h3,rfl⟩
   ·exact hS
   ·refine ⟨⟨hS.rel.below,hS.rel.defers,hS.rel.size,fun u tv e=>?_,hS.rel.boxes,hS.rel.rows,hS.rel.stb,hS.rel.own,hS.rel.rowv,hS.rel.sub,hS.rel.wr,hS.rel.out⟩,hS.free,hS.krow,hS.kbox,hS.kdis⟩
    simp only [knows,xas] at e
    split at e
    ·rename_i hdu;subst hdu;injection e with e;subst e;exact ⟨_,hv1,rfl⟩
    ·exact hS.rel.tmps u tv e
theorem xgh (hT:xaz P T) (hC:xdx P T C) {ops:Array Oper} {k:Fr→Prop} {Q:Exit→Act→World→Prop} (hQ:∀G' F' a' w',St w0 G' F' a' w'→k F'→Q .normal a' w') :
 ∀(l:List Oper) (i:Nat) (F:Fr) (G:Gh) (a:Act) (w:World),(∀j,l[j]? = ops[i+j]?)→xq9 C T ops.toList l F k→St w0 G F a w→wpOps P ops Q ((List.range l.length).map (i+·)) a w
 | [],i,F,G,a,w,_,h,hS=>hQ G F a w hS h
 | o::l,i,F,G,a,w,hl,h,hS=>by
  have h0:ops[i]? = some o:=by simpa using (hl 0).symm
  have hl':∀j,l[j]? = ops[i+1+j]? := fun j=>by
   have:=hl (j+1)
   rw [show i+1+j=i+(j+1) by omega]
   simpa using this
  have hrange:(List.range (o::l).length).map (i+·)=i::(List.range l.length).map (i+1+·):=by
   rw [List.length_cons,List.range_succ_eq_map,List.map_cons,List.map_map]
   simp only [Nat.add_zero,List.cons.injEq,true_and]
   apply List.map_congr_left
   intro j _
   simp only [Function.comp]
   omega
  rw [hrange]
  have hskip:∀(F1:Fr),St w0 G F1 a w→xq9 C T ops.toList l (put F1 o.dst .undef) k→Region.wanted o (yielded ops a.tmps)=false→wpOps P ops Q (i::(List.range l.length).map (i+1+·)) a w:=by
   intro F1 hS1 h1 hw
   unfold wpOps
   rw [h0]
   simp only [hw]
   exact xgh hT hC hQ l (i+1) _ G _ w hl' h1 (hS1.put o.dst (fun b hb=>by cases hb))
  have hdo:∀(F1:Fr),St w0 G F1 a w→xht T F1 o=true→opS C T o F1 (fun F=>xq9 C T ops.toList l F k)→Region.wanted o (yielded ops a.tmps)=true→wpOps P ops Q (i::(List.range l.length).map (i+1+·)) a w:=by
   intro F1 hS1 hok h1 hw
   unfold wpOps
   rw [h0]
   simp only [hw,if_true]
   exact .inl (xlL hT hC h1 hok hS1 fun G' F' a' w' hS' h'=>xgh hT hC hQ l (i+1) F' G' a' w' hl' h' hS')
  unfold xq9 at h
  split at h
  ·rename_i hg
   split at h
   case isFalse=>exact h.elim
   rename_i hok
   exact hdo F hS hok h (by simp [Region.wanted,hg])
  ·rename_i j want hg
   obtain ⟨b,F1,h1,h2⟩:=xeT hg h
   obtain ⟨hw,hS1⟩:=xhl hS h1
   cases b with
   | true =>
    rw [if_pos rfl] at h2
    split at h2
    case isFalse=>exact h2.elim
    rename_i hok
    exact hdo F1 hS1 hok h2 hw
   | false =>
    rw [if_neg (by simp)] at h2
    exact hskip F1 hS1 h2 hw
end
end Go.Ev
/- The evaluator's word for a piece of code is the code's. -/
namespace Go.Ev
open Go.RowKit
def xrg:Out→Exit
 | .norm=>.normal
 | .ret=>.ret
 | .exit i=>.exit i
section
variable {P : Program} {T : Tab} {C : Orac} {w0 : Base}
theorem St.tb {G:Gh} {F:Fr} {a:Act} {w:World} (h:St w0 G F a w):∀t tv,lk F.tmps t=some tv→t<F.nt:=by
 intro t tv e
 obtain ⟨v,h1,_⟩:=h.rel.tmps t tv e
 have:=h.rel.size
 rcases Nat.lt_or_ge t a.tmps.size with h' | h'
 ·rw [this] at h';exact h'
 ·rw [Array.getElem?_eq_none h'] at h1;cases h1
theorem St.knows {G:Gh} {F:Fr} {a:Act} {w:World} (h:St w0 G F a w) {d:Nat} {b:Bool} (hd:lk F.tmps d=some (.one (.pv (.bool b)))):St w0 G (Ev.knows F d b) a w:=by
 obtain ⟨v,h1,h2⟩:=h.rel.tmps d _ hd
 have h3:=xbp.bool_inv h2
 subst h3
 refine ⟨⟨h.rel.below,h.rel.defers,h.rel.size,fun u tv e=>?_,h.rel.boxes,h.rel.rows,h.rel.stb,h.rel.own,h.rel.rowv,h.rel.sub,h.rel.wr,h.rel.out⟩,h.free,h.krow,h.kbox,h.kdis⟩
 simp only [Ev.knows,xas] at e
 split at e
 ·rename_i hdu;subst hdu;injection e with e;subst e;exact ⟨_,h1,rfl⟩
 ·exact h.rel.tmps u tv e
theorem xi6 (hT:xaz P T) (hC:xdx P T C) {ops:Array Oper} {m:List Nat} (hB:xow ops m=true) {F0:Fr} (hL:xmQ T F0 ops m=true) {k:Fr→Prop} {Q:Exit→Act→World→Prop} (hQ:∀F G a w,St w0 G F a w→k F→Q .normal a w) :
 ∀(l:List Nat) (fuel:Nat) (listed:Array Bool) (F:Fr) (G:Gh) (a:Act) (w:World),(∀x∈l,x∈m)→l.Pairwise (·<·)→xra C T ops.toList l F k→St w0 G F a w →
  listed.size=ops.size→count ops listed≤fuel→Down ops listed→(∀j,j<ops.size→(listed.getD j true=true↔j∉l))→wpAny P .any ops Q fuel listed a w
 | [],fuel,listed,F,G,a,w,_,_,h,hS,hs,hc,hD,hl=>by
  have hall:∀i,i<ops.size→listed.getD i true=true:=fun i hi=>(hl i hi).2 (by simp)
  have hr:Region.ready .any ops listed=[]:=by
   cases hr:Region.ready .any ops listed with
   | nil=>rfl
   | cons i l =>
    have hm:i∈Region.ready .any ops listed:=by rw [hr];simp
    rw [mem_ready] at hm
    obtain ⟨h1,o,h2,_⟩:=hm
    rw [hall i (xbY h2)] at h1
    cases h1
  cases fuel with
  | zero=>exact ⟨hr,hQ F G a w hS h⟩
  | succ n=>exact ⟨fun _=>hQ F G a w hS h,fun i hi=>by rw [hr] at hi;cases hi⟩
 | x::l,fuel,listed,F,G,a,w,hm,hp,h,hS,hs,hc,hD,hl=>by
  obtain ⟨hp1,hp2⟩:=List.pairwise_cons.1 hp
  unfold xra at h
  split at h
  case h_2=>exact h.elim
  rename_i o ho
  have hx:ops[x]? = some o:=by rw [←Array.getElem?_toList];exact ho
  have hxs:=xbY hx
  have hu:listed.getD x true=false:=by
   cases hh:listed.getD x true with
   | false=>rfl
   | true=>exact absurd (by simp) ((hl x hxs).1 hh)
  cases fuel with
  | zero =>
   exfalso
   have:=xgw (ops:=ops) (listed:=listed) (by omega) hxs
   rw [hu] at this;cases this
  | succ fuel =>
  refine ⟨fun hr=>absurd (xeO hB hs hr x hxs) (by rw [hu];simp),fun i hi=>?_⟩
  rw [mem_ready] at hi
  obtain ⟨hiu,oi,hoi,haft⟩:=hi
  have his:=xbY hoi
  have hil:i∈x::l:=Decidable.byContradiction fun hno=>by rw [(hl i his).2 hno] at hiu;cases hiu
  have hix:i=x:=by
   rcases List.mem_cons.1 hil with h' | h'
   ·exact h'
   ·exfalso
    obtain ⟨fl,hL1,hL2,_⟩:=xhO hL
    have hxf:x∉ops.size::fl:=fun h'=>by
     rcases List.mem_cons.1 h' with h' | h'
     ·omega
     ·obtain ⟨_,_,hok,_⟩:=xjk (hL2 x h');exact hok (hm x (by simp))
    have:=xjb hL1 hD (hm i hil) (fun o' ho' e he hb=>by rw [hoi] at ho';injection ho' with ho';subst ho';exact haft e he hb) hxs hxf (.inr (hp1 i h'))
    rw [xfu hs hxs false true,hu] at this;cases this
  subst hix
  rw [hx] at hoi;injection hoi with hoi;subst hoi
  have hs2:(listed.setIfInBounds i true).size=ops.size:=by simpa using hs
  have hc2:count ops (listed.setIfInBounds i true)≤fuel:=by have:=xf0 (ops:=ops) hxs hu;omega
  have hl2:∀j,j<ops.size→((listed.setIfInBounds i true).getD j true=true↔j∉l):=by
   intro j hj
   by_cases hji:i=j
   ·subst hji
    have hlt:i<listed.size:=by omega
    refine ⟨fun _ hh=>Nat.lt_irrefl _ (hp1 i hh),fun _=>by simp [hlt]⟩
   ·rw [getD_set_ne true hji,hl j hj,List.mem_cons,not_or]
    exact ⟨fun h=>h.2,fun h=>⟨fun e=>hji e.symm,h⟩⟩
  have next:∀(F:Fr) (G:Gh) (a:Act) (w:World),xra C T ops.toList l F k→St w0 G F a w→wpAny P .any ops Q fuel (listed.setIfInBounds i true) a w:=fun F G a w h hS =>
   xi6 hT hC hB hL hQ l fuel _ F G a w (fun y hy=>hm y (List.mem_cons_of_mem _ hy)) hp2 h hS hs2 hc2 (hD.set hx haft) hl2
  have hdo:∀(F1:Fr),St w0 G F1 a w→xht T F1 o=true→opS C T o F1 (fun F=>xra C T ops.toList l F k)→Region.wanted o (yielded ops a.tmps)=true→wpOp P ops Q i (wpAny P .any ops Q fuel (listed.setIfInBounds i true)) a w:=by
   intro F1 hS1 hok h1 hw
   unfold wpOp
   rw [hx]
   simp only [hw,if_true]
   exact .inl (xlL hT hC h1 hok hS1 fun G' F' a' w' hS' h'=>next F' G' a' w' h' hS')
  split at h
  ·rename_i hg
   split at h
   case isFalse=>exact h.elim
   rename_i hok
   exact hdo F hS hok h (by simp [Region.wanted,hg])
  ·rename_i j want hg
   obtain ⟨b,F1,h1,h2⟩:=xeT hg h
   obtain ⟨hw,hS1⟩:=xhl hS h1
   cases b with
   | true =>
    rw [if_pos rfl] at h2
    split at h2
    case isFalse=>exact h2.elim
    rename_i hok
    exact hdo F1 hS1 hok h2 hw
   | false =>
    rw [if_neg (by simp)] at h2
    unfold wpOp
    rw [hx]
    simp only [hw]
    exact next _ G _ w h2 (hS1.put o.dst (fun b hb=>by cases hb))
theorem xhh {ops:Array Oper} {U:List Nat} {p:Nat→Oper→Prop}:∀{l:List Nat},xs9 ops U p l→∀i o,i∈l→ops[i]? = some o→xub U o=true→p i o
 | [],_,i,o,hi,_,_=>(nomatch hi)
 | j::r,h,i,o,hi,ho,hr=>by
  simp only [xs9] at h
  split at h
  ·rename_i oj hj
   rcases List.mem_cons.1 hi with rfl | hi
   ·rw [ho] at hj;injection hj with hj;subst hj
    rw [if_pos hr] at h
    exact h.1
   ·split at h
    ·exact xhh h.2 i o hi ho hr
    ·exact xhh h i o hi ho hr
  ·exact h.elim
theorem xol {ops:Array Oper} {U:List Nat} {listed:Array Bool} (hs:listed.size=ops.size) (hl:∀j,j<ops.size→(listed.getD j true=true↔j∉U)) {o:Oper} (h:∀e∈o.after,Region.binds .any e=true→listed.getD e.on false=true):xub U o=true:=by
 unfold xub
 refine Array.all_eq_true_iff_forall_mem.2 fun e he=>?_
 cases hb:Region.binds .any e with
 | false=>rfl
 | true =>
  have h1:=h e he hb
  have hlt:e.on<ops.size:=by
   rw [←hs]
   rcases Nat.lt_or_ge e.on listed.size with h' | h'
   ·exact h'
   ·simp [h'] at h1
  rw [xfu hs hlt false true] at h1
  have:=(hl e.on hlt).1 h1
  simp [this]
theorem xkC (hT:xaz P T) (hC:xdx P T C) {ops:Array Oper} {i:Nat} {o:Oper} {F:Fr} {G:Gh} {a:Act} {w:World} {k:Fr→Prop} {K:Act→World→Prop} {Q:Exit→Act→World→Prop} (ho:ops[i]? = some o) (h:opG C T ops.toList o F k) (hS:St w0 G F a w)
 (hK:∀G' F' a' w',St w0 G' F' a' w'→k F'→K a' w'):wpOp P ops Q i K a w:=by
 have hdo:∀(F1:Fr),St w0 G F1 a w→xht T F1 o=true→opS C T o F1 k→Region.wanted o (yielded ops a.tmps)=true→wpOp P ops Q i K a w:=by
  intro F1 hS1 hok h1 hw
  unfold wpOp
  rw [ho]
  simp only [hw,if_true]
  exact .inl (xlL hT hC h1 hok hS1 hK)
 unfold opG at h
 split at h
 ·rename_i hg
  split at h
  case isFalse=>exact h.elim
  rename_i hok
  exact hdo F hS hok h (by simp [Region.wanted,hg])
 ·rename_i j want hg
  obtain ⟨b,F1,h1,h2⟩:=xeT hg h
  obtain ⟨hw,hS1⟩:=xhl hS h1
  cases b with
  | true =>
   rw [if_pos rfl] at h2
   split at h2
   case isFalse=>exact h2.elim
   rename_i hok
   exact hdo F1 hS1 hok h2 hw
  | false =>
   rw [if_neg (by simp)] at h2
   unfold wpOp
   rw [ho]
   simp only [hw]
   exact hK _ _ _ _ (hS1.put o.dst (tv:=.undef) (fun b hb=>by cases hb)) h2
theorem xmP {ops:Array Oper} {U:List Nat} {listed:Array Bool} (hs:listed.size=ops.size) {i:Nat} (hi:i<ops.size) (hl:∀j,j<ops.size→(listed.getD j true=true↔j∉U)) :
 ∀j,j<ops.size→((listed.setIfInBounds i true).getD j true=true↔j∉U.filter (· != i)):=by
 intro j hj
 by_cases hji:i=j
 ·subst hji
  have hlt:i<listed.size:=by omega
  exact ⟨fun _ hh=>by simp at hh,fun _=>by simp [hlt]⟩
 ·rw [getD_set_ne true hji,hl j hj,List.mem_filter]
  constructor
  ·exact fun h hh=>h hh.1
  ·exact fun h hh=>h ⟨hh,by simp;exact fun e=>hji e.symm⟩
theorem xi5 (hT:xaz P T) (hC:xdx P T C) {ops:Array Oper} {m:List Nat} (hB:xow ops m=true) {k:Fr→Prop} {Q:Exit→Act→World→Prop} (hQ:∀F G a w,St w0 G F a w→k F→Q .normal a w) :
 ∀(n:Nat) (U:List Nat) (fuel:Nat) (listed:Array Bool) (F:Fr) (G:Gh) (a:Act) (w:World),xs3 C T ops n U F k→St w0 G F a w→(∀x∈U,x<ops.size) →
  listed.size=ops.size→count ops listed≤fuel→(∀j,j<ops.size→(listed.getD j true=true↔j∉U))→wpAny P .any ops Q fuel listed a w:=by
 have fin:∀(fuel:Nat) (listed:Array Bool) (F:Fr) (G:Gh) (a:Act) (w:World),k F→St w0 G F a w→listed.size=ops.size→(∀j,j<ops.size→(listed.getD j true=true↔j∉([]:List Nat)))→wpAny P .any ops Q fuel listed a w:=by
  intro fuel listed F G a w h hS hs hl
  have hr:Region.ready .any ops listed=[]:=by
   cases hr:Region.ready .any ops listed with
   | nil=>rfl
   | cons i l =>
    have hm:i∈Region.ready .any ops listed:=by rw [hr];simp
    rw [mem_ready] at hm
    obtain ⟨h1,o,h2,_⟩:=hm
    rw [(hl i (xbY h2)).2 (by simp)] at h1
    cases h1
  cases fuel with
  | zero=>exact ⟨hr,hQ F G a w hS h⟩
  | succ n=>exact ⟨fun _=>hQ F G a w hS h,fun i hi=>by rw [hr] at hi;cases hi⟩
 intro n
 induction n with
 | zero =>
  intro U fuel listed F G a w h hS _ hs hc hl
  simp only [xs3] at h
  split at h
  ·rename_i hU
   have:U=[]:=List.isEmpty_iff.1 hU
   subst this
   exact fin fuel listed F G a w h hS hs hl
  ·exact h.elim
 | succ n ih =>
  intro U fuel listed F G a w h hS hU hs hc hl
  simp only [xs3] at h
  split at h
  ·rename_i hU
   have:U=[]:=List.isEmpty_iff.1 hU
   subst this
   exact fin fuel listed F G a w h hS hs hl
  ·rename_i hne
   obtain ⟨u,hu⟩:∃u,u∈U:=by
    cases U with
    | nil=>simp at hne
    | cons u _=>exact ⟨u,by simp⟩
   have hul:listed.getD u true=false:=by
    cases hh:listed.getD u true with
    | false=>rfl
    | true=>exact absurd hu ((hl u (hU u hu)).1 hh)
   cases fuel with
   | zero =>
    have:=xgw (ops:=ops) (listed:=listed) (by omega) (hU u hu)
    rw [hul] at this;cases this
   | succ fuel =>
    refine ⟨fun hr=>absurd (xeO hB hs hr u (hU u hu)) (by rw [hul];simp),fun i hi=>?_⟩
    rw [mem_ready] at hi
    obtain ⟨hiu,o,ho,haft⟩:=hi
    have his:=xbY ho
    have hiU:i∈U:=Decidable.byContradiction fun hno=>by rw [(hl i his).2 hno] at hiu;cases hiu
    have h1:=xhh h i o hiU ho (xol hs hl haft)
    refine xkC hT hC ho h1 hS fun G' F' a' w' hS' h'=>ih _ fuel _ F' G' a' w' h' hS' (fun x hx=>hU x (List.mem_filter.1 hx).1) (by simpa using hs) (by have:=xf0 (ops:=ops) his hiu;omega) (xmP hs his hl)
def xoz (Q:Exit→Act→World→Prop):Exit→Act→World→Prop:=fun e a w=>match e with | .panic _=>False | e=>Q e a w
theorem xnr (hT:xaz P T) (hC:xdx P T C) {ops:Array Oper} {F:Fr} {k:Fr→Prop} {G:Gh} {a:Act} {w:World} {id:Nat} {Q:Exit→Act→World→Prop} (h:xuA C T ops F k) (hS:St w0 G F a w)
 (hQ:∀F G a w,St w0 G F a w→k F→Q .normal a w):(Code.region id ops true).wp P Q a w:=by
 unfold xuA at h
 obtain ⟨m,p,F',hst,h1,_,hp⟩:=xgi hT hC ops.toList 0 [] F (fun _ h=>(nomatch h)) .nil h
 split at h1
 case isFalse=>exact h1.elim
 rename_i hB
 split at h1
 ·rename_i hL
  obtain ⟨fl,hL1,hL2,hL3⟩:=xhO hL
  refine Code.wp_mono (Q:=xoz Q) (fun e a w h=>by cases e<;>first | exact h | exact h.elim) ?_
  refine xi1 hB hT.mixed hS hst hT ops.size hL1 (fun f hf=>⟨hL2 f hf,fun o ho x hx hb he=>?_⟩) hL3 (fun _ _ _ _ h=>h) (fun fuel listed G a w hS' hs hc hD hl=>?_) (fun fuel listed G a w oe hoe=>?_)
  ·have h1:=xhI hB ho hx hb
   have h2:=xbY ho
   omega
  ·exact xi6 (Q:=xoz Q) hT hC hB hL (fun F G a w h1 h2=>hQ F G a w h1 h2) m.reverse fuel listed F' G a w (fun x hx=>by simpa using hx) (List.pairwise_reverse.2 hp) h1 hS' hs hc hD (fun j hj=>by rw [hl j hj];simp)
  ·have:=xbY hoe
   omega
 ·dsimp only at h1
  split at h1
  case h_2=>exact h1.elim
  rename_i oe hoe
  split at h1
  case isFalse=>exact h1.elim
  rename_i hE
  obtain ⟨hA,hX⟩:=h1
  unfold xtm at hE
  simp only [Bool.and_eq_true,List.all_eq_true] at hE
  obtain ⟨⟨⟨e1,e2⟩,e3⟩,e4⟩:=hE
  have hmsz:∀x∈m,x<ops.size:=fun x hx=>of_decide_eq_true (e4 x hx)
  refine Code.wp_mono (Q:=xoz Q) (fun e a w h=>by cases e<;>first | exact h | exact h.elim) ?_
  refine xi1 hB hT.mixed hS hst hT (xmJ T F' ops m) e1 (fun f hf=>⟨(e2 f hf).1,fun o ho x hx hb=>?_⟩) (.inr e3) (fun _ _ _ _ h=>h) (fun fuel listed G a w hS' hs hc hD hl=>?_) (fun fuel listed G a w oe' hoe' hS' hs hc hD hl i him hir=>?_)
  ·have h2:=(e2 f hf).2
   rw [ho] at h2
   have:=(Array.all_eq_true_iff_forall_mem.1 h2) x hx
   rw [hb] at this
   simpa using this
  ·exact xi5 (Q:=xoz Q) hT hC hB (fun F G a w h1 h2=>hQ F G a w h1 h2) m.length m.reverse fuel listed F' G a w hA hS' (fun x hx=>hmsz x (by simpa using hx)) hs hc (fun j hj=>by rw [hl j hj];simp)
  ·rw [hoe] at hoe'
   injection hoe' with hoe'
   subst hoe'
   have hl2:∀j,j<ops.size→(listed.getD j true=true↔j∉xmJ T F' ops m::m.reverse):=fun j hj=>by
    rw [hl j hj];simp only [List.mem_cons,List.mem_reverse,not_or];exact And.comm
   have hl3:∀j,j<ops.size→(listed.getD j true=true↔j∉xmJ T F' ops m::m):=fun j hj=>by
    rw [hl j hj];simp only [List.mem_cons,not_or];exact And.comm
   rw [mem_ready] at hir
   obtain ⟨hiu,o,ho,haft⟩:=hir
   have his:=xbY ho
   have h1:=xhh hX i o (by simpa using him) ho (xol hs hl3 haft)
   refine xkC hT hC ho h1 hS' fun G' F2 a' w' hS2 h'=>?_
   exact xi5 (Q:=xoz Q) hT hC hB (fun F G a w h1 h2=>hQ F G a w h1 h2) m.length _ fuel _ F2 G' a' w' h' hS2 (fun x hx=>by
    have:=(List.mem_filter.1 hx).1
    rcases List.mem_cons.1 this with rfl | hx
    ·exact xbY hoe
    ·exact hmsz x (by simpa using hx)) (by simpa using hs) (by have:=xf0 (ops:=ops) his hiu;omega) (xmP hs his hl2)
theorem xjz {keep:List (Nat×Bool)}:∀{l:List (Nat×TV)} {n:Nat} {sn:List Nat} {K:List (Nat×TV)→Prop},xnj keep n sn l K→∃r,K r∧(∀t v,lk r t=some v→xkn t sn=false∧lk l t=some v)∧(n=0→∀t v,lk r t=some v→xoO 0 keep t=true)
 | [],n,sn,K,h=>⟨[],by simpa [xnj] using h,⟨fun t v e=>by simp [lk] at e,fun _ t v e=>by simp [lk] at e⟩⟩
 | x::l,n,sn,K,h=>by
  simp only [xnj] at h
  have lkc:∀(m:List (Nat×TV)) t,lk (x::m) t=if x.1=t then some x.2 else lk m t:=fun m t=>rfl
  split at h
  ·rename_i hk
   simp only [Bool.and_eq_true,Bool.not_eq_true'] at hk
   obtain ⟨r,h1,h2,h3⟩:=xjz h
   refine ⟨x::r,h1,fun t v e=>?_,fun hn t v e=>?_⟩
   ·rw [lkc] at e ⊢
    split at e
    ·rename_i hx;rw [if_pos hx];exact ⟨by rw [←hx];exact hk.2,e⟩
    ·rename_i hx;rw [if_neg hx]
     obtain ⟨g1,g2⟩:=h2 t v e
     simp only [xkn,Bool.or_eq_false_iff] at g1
     exact ⟨g1.2,g2⟩
   ·rw [lkc] at e
    split at e
    ·rename_i hx;rw [←hx];subst hn;exact hk.1
    ·exact h3 (by omega) t v e
  ·rename_i hk
   obtain ⟨r,h1,h2,h3⟩:=xjz h
   refine ⟨r,h1,fun t v e=>?_,fun hn t v e=>h3 (by omega) t v e⟩
   obtain ⟨g1,g2⟩:=h2 t v e
   refine ⟨g1,?_⟩
   rw [lkc]
   have hne:¬x.1=t:=fun hx=>by
    subst hx
    rw [g1] at hk
    cases n with
    | succ n=>simp [xoO] at hk
    | zero=>rw [h3 rfl _ v e] at hk;cases hk
   rw [if_neg hne]
   exact g2
theorem xmt {G:Gh} {F:Fr} {a:Act} {w:World} {n:Nat} {keep:List (Nat×Bool)} {K:Fr→Prop} (h:xiw n keep F K) (hS:St w0 G F a w):∃F',St w0 G F' a w∧K F':=by
 cases n with
 | zero=>exact ⟨F,hS,h⟩
 | succ n =>
  obtain ⟨r,h1,h2,_⟩:=xjz h
  exact ⟨⟨r,F.boxes,F.rows,F.next,F.nt,F.pin⟩,⟨⟨hS.rel.below,hS.rel.defers,hS.rel.size,fun t tv e=>hS.rel.tmps t tv (h2 t tv e).2,hS.rel.boxes,hS.rel.rows,hS.rel.stb,hS.rel.own,hS.rel.rowv,hS.rel.sub,hS.rel.wr,hS.rel.out⟩,hS.free,hS.krow,hS.kbox,hS.kdis⟩,h1⟩
theorem xbF (hT:xaz P T) (hC:xdx P T C) (keep:List (Nat×Bool)):∀(c:Code) {F:Fr} {k:Out→Fr→Prop} {G:Gh} {a:Act} {w:World} {Q:Exit→Act→World→Prop},
 sx C T keep c F k→St w0 G F a w→(∀o F' G' a' w',St w0 G' F' a' w'→k o F'→Q (xrg o) a' w')→c.wp P Q a w
 | .skip,F,k,G,a,w,Q,h,hS,hQ=>wp_skip (hQ .norm F G a w hS h)
 | .region id ops draw,F,k,G,a,w,Q,h,hS,hQ=>by
  simp only [sx] at h
  split at h
  ·rename_i hd
   subst hd
   exact xnr hT hC h hS fun F' G' a' w' hS' hk=>hQ .norm F' G' a' w' hS' hk
  ·rename_i hd
   have hd':draw=false:=by simpa using hd
   subst hd'
   refine wp_region ?_
   have:=xgh hT hC (ops:=ops) (k:=k .norm) (Q:=Q) (fun G' F' a' w' hS' hk=>hQ .norm F' G' a' w' hS' hk) ops.toList 0 F G a w (fun j=>by simp) h hS
   have e:(List.range ops.toList.length).map (0+·)=List.range ops.size:=by
    rw [show (fun x=>0+x)=(fun x:Nat=>x) by funext x;omega,List.map_id']
    simp
   rw [e] at this
   exact this
 | .seq x y,F,k,G,a,w,Q,h,hS,hQ=>by
  simp only [sx] at h
  refine wp_seq (xbF hT hC keep x h hS fun o F' G' a' w' hS' hk=>?_)
  cases o with
  | norm =>
   obtain ⟨F2,hS2,hk2⟩:=xmt hk hS'
   exact xbF hT hC keep y hk2 hS2 hQ
  | ret=>exact hQ .ret F' G' a' w' hS' hk
  | exit i=>exact hQ (.exit i) F' G' a' w' hS' hk
 | .cond c x y,F,k,G,a,w,Q,h,hS,hQ=>by
  simp only [sx] at h
  split at h
  ·rename_i d
   split at h
   ·rename_i t ht
    obtain ⟨v,h1,h2⟩:=hS.rel.tmps d _ ht
    have h3:v=.bool t:=h2
    subst h3
    have hev:a.eval (.tmp d)=.bool t:=by simp [Act.eval,h1]
    cases t with
    | true=>rw [if_pos rfl] at h;exact wp_cond_true hev (xbF hT hC keep x h hS hQ)
    | false=>rw [if_neg (by simp)] at h;exact wp_cond_false hev (xbF hT hC keep y h hS hQ)
   ·rename_i p ht
    unfold xad at h
    split at h
    ·rename_i t
     obtain ⟨v,h1,h2⟩:=hS.rel.tmps d _ ht
     have h3:=xbp.bool_inv h2
     subst h3
     have hev:a.eval (.tmp d)=.bool t:=by simp [Act.eval,h1]
     have hS1:=hS.knows ht
     cases t with
     | true=>rw [if_pos rfl] at h;exact wp_cond_true hev (xbF hT hC keep x h hS1 hQ)
     | false=>rw [if_neg (by simp)] at h;exact wp_cond_false hev (xbF hT hC keep y h hS1 hQ)
    ·exact h.elim
   ·exact h.elim
  ·exact h.elim
 | .block id x,F,k,G,a,w,Q,h,hS,hQ=>by
  simp only [sx] at h
  refine wp_block (xbF hT hC keep x h hS fun o F' G' a' w' hS' hk=>?_)
  cases o with
  | norm=>exact hQ .norm F' G' a' w' hS' hk
  | ret=>exact hQ .ret F' G' a' w' hS' hk
  | exit i =>
   simp only at hk
   show Exit.inBlock id Q (.exit i) a' w'
   simp only [Exit.inBlock]
   split at hk
   ·rename_i hi;rw [if_pos hi];exact hQ .norm F' G' a' w' hS' hk
   ·rename_i hi;rw [if_neg hi];exact hQ (.exit i) F' G' a' w' hS' hk
 | .exit i,F,k,G,a,w,Q,h,hS,hQ=>wp_exit (hQ (.exit i) F G a w hS h)
 | .loop b,F,k,G,a,w,Q,h,hS,hQ=>by
  simp only [sx] at h
  split at h
  ·rename_i H hH
   obtain ⟨G1,hS1⟩:=xgL hH hS
   obtain ⟨n,hn⟩:=h
   refine wp_loop_rounds n ?_
   have key:∀(n:Nat) (F:Fr) (G:Gh) (a:Act) (w:World),xoG (sx C T keep b) k n F→St w0 G F a w→Code.rounds P b Q n a w:=by
    intro n
    induction n with
    | zero=>intro F G a w h _;exact h.elim
    | succ n ih =>
     intro F G a w h hS
     rw [rounds_succ]
     refine xbF hT hC keep b h hS fun o F' G' a' w' hS' hk=>?_
     cases o with
     | norm =>
      simp only at hk
      split at hk
      ·rename_i F1 hF1
       obtain ⟨G2,hS2⟩:=xgx hS.keys hS.tb hF1 hS'
       exact ih F1 G2 a' w' hk hS2
      ·exact hk.elim
     | ret=>exact hQ .ret F' G' a' w' hS' hk
     | exit i=>exact hQ (.exit i) F' G' a' w' hS' hk
   exact key n H G1 a w hn hS1
  ·exact h.elim
 | .ret,F,k,G,a,w,Q,h,hS,hQ=>wp_ret (hQ .ret F G a w hS h)
 | .rangeFunc ..,F,k,G,a,w,Q,h,hS,hQ=>by simp [sx] at h
 | .scope _,F,k,G,a,w,Q,h,hS,hQ=>by simp [sx] at h
 | .label _,F,k,G,a,w,Q,h,hS,hQ=>by simp [sx] at h
 | .goto _,F,k,G,a,w,Q,h,hS,hQ=>by simp [sx] at h
end
end Go.Ev
/- A function's whole run: what the evaluator says of it is what a call of it owes. -/
namespace Go.Ev
open Go.RowKit
section
variable {P : Program} {T : Tab} {C : Orac} {F : Fr} {w0 : Base} {G : Gh} {a : Act} {w : World}
theorem xey:∀{c1 c2:List Cell} {k1 k2:List CK} {u u1 u2:List Nat} {p1 p2:List PV},xaV F u c1 k1=some (p1,u1)→xaV F u1 c2 k2=some (p2,u2)→xaV F u (c1++c2) (k1++k2)=some (p1++p2,u2)
 | [],c2,[],k2,u,u1,u2,p1,p2,h1,h2=>by simp only [xaV] at h1;injection h1 with h1;injection h1 with e1 e2;subst e1;subst e2;exact h2
 | c::c1,c2,k::k1,k2,u,u1,u2,p1,p2,h1,h2=>by
  simp only [xaV] at h1
  split at h1
  ·rename_i p u' e1
   split at h1
   ·rename_i ps u'' e2
    injection h1 with h1;injection h1 with e3 e4;subst e3;subst e4
    have:=xey e2 h2
    simp only [List.cons_append,xaV,e1,this]
   ·cases h1
  ·cases h1
 | [],_,_::_,_,_,_,_,_,_,h,_=>by simp [xaV] at h
 | _::_,_,[],_,_,_,_,_,_,h,_=>by simp [xaV] at h
theorem xex:∀{cs:List Cell} {ks:List CK} {u u':List Nat} {ps:List PV},xaV F u cs ks=some (ps,u')→cs.length=ks.length∧ps.length=ks.length
 | [],[],u,u',ps,h=>by simp only [xaV] at h;injection h with h;injection h with e1 e2;subst e1;exact ⟨rfl,rfl⟩
 | c::cs,k::ks,u,u',ps,h=>by
  simp only [xaV] at h
  split at h
  ·split at h
   ·rename_i ps' u2 e2
    injection h with h;injection h with e3 e4;subst e3
    have:=xex e2
    simp [this.1,this.2]
   ·cases h
  ·cases h
 | [],_::_,_,_,_,h=>by simp [xaV] at h
 | _::_,[],_,_,_,h=>by simp [xaV] at h
def xi0 (a:Act):ResultVar→Sem Value
 | .tmp t=>pure (a.tmps.getD t undef)
 | .cell x t=>do loadVar t (←asAddr (a.tmps.getD x undef))
inductive xir (P:Program) (a:Act) (w:World):List ResultVar→List Value→Prop
 | nil:xir P a w [] []
 | cons {r:ResultVar} {v:Value} {rs:List ResultVar} {vs:List Value}:(xi0 a r).run P w=.ok v w→xir P a w rs vs→xir P a w (r::rs) (v::vs)
theorem xmF (hT:xaz P T) (hR:Rel w0 G F a w) {r:ResultVar} {tv:TV} (h:xmG T F r=some tv):∃v,(xi0 a r).run P w=.ok v w∧xcy G w tv v:=by
 cases r with
 | tmp t =>
  obtain ⟨v,m1,m2⟩:=hR.tmps t tv h
  exact ⟨v,by simp [xi0,m1],m2⟩
 | cell t ty =>
  simp only [xmG] at h
  split at h
  ·rename_i b off i e1 hi
   split at h
   ·rename_i cs hb
    obtain ⟨pv,m1,g,m2,m3⟩:=hR.tmps t _ e1
    obtain ⟨_,vs,e,hh,hc⟩:=hR.boxes b cs g hb m2
    have cell:∀j u,vs[j]? = some u→w.cell? ⟨g,j,none⟩=some u:=fun j u hu=>by rw [cell_of_row w g j _ e (0,0) hh];simpa using hu
    subst m3
    have hrun:∀v,(loadVar ty ⟨g,off,none⟩).run P w=.ok v w→(xi0 a (.cell t ty)).run P w=.ok v w:=by
     intro v hv
     simp only [xi0]
     rw [show a.tmps.getD t undef=.pointer (some ⟨g,off,none⟩) by simp [m1]]
     rw [Sem.run_bind]
     have:(asAddr (.pointer (some ⟨g,off,none⟩))).run P w=.ok ⟨g,off,none⟩ w:=by simp [asAddr]
     rw [this]
     exact hv
    split at h
    ·rename_i hag
     split at h
     ·rename_i hle
      injection h with h;subst h
      have hlen:=hc.len
      refine ⟨.agg ((vs.drop off).take i.size).toArray,hrun _ ?_,_,rfl,(hc.drop off).take i.size⟩
      exact xb8 (hT.ty ty i hi) hag w g off ((vs.drop off).take i.size) (by rw [List.length_take,List.length_drop];omega) (fun j u hu=>cell _ _ (by
       rw [List.getElem?_take] at hu
       split at hu
       ·rwa [List.getElem?_drop] at hu
       ·cases hu))
     ·cases h
    ·rename_i hag
     split at h
     ·rename_i c hcc
      injection h with h;subst h
      obtain ⟨u,h7,h8⟩:=hc.at_ hcc
      exact ⟨u,hrun _ (xb7 (hT.ty ty i hi) (by simpa using hag) w g off u (cell _ _ h7)),h8⟩
     ·cases h
   ·cases h
  ·cases h
theorem xhH (hT:xaz P T) (hR:Rel w0 G F a w):∀{rvs:List ResultVar} {sg:List RS} {u u':List Nat} {out:List PV},xeg T F u rvs sg=some (out,u') →
 ∃(rcs:List Cell) (cvs:List Value),xaN G w rcs cvs∧xaV F u rcs (xaA sg)=some (out,u')∧xir P a w rvs (xcH sg cvs)
 | [],[],u,u',out,h=>by simp only [xeg] at h;injection h with h;injection h with e1 e2;subst e1;subst e2;exact ⟨[],[],rfl,rfl,.nil⟩
 | rv::ts,r::rs,u,u',out,h=>by
  simp only [xeg] at h
  split at h
  ·rename_i tv htv
   split at h
   ·rename_i ps u1 h1
    split at h
    ·rename_i qs u2 h2
     injection h with h;injection h with e3 e4;subst e3;subst e4
     obtain ⟨rcs,cvs,k1,k2,k3⟩:=xhH hT hR h2
     obtain ⟨v,m1,m2⟩:=xmF hT hR htv
     unfold xtf at h1
     split at h1
     ·rename_i c ck
      split at h1
      ·rename_i p u3 h3
       injection h1 with h1;injection h1 with e5 e6;subst e5;subst e6
       refine ⟨c::rcs,v::cvs,⟨v,cvs,rfl,m2,k1⟩,?_,?_⟩
       ·show xaV F u (c::rcs) (ck::xaA rs)=_
        simp only [xaV,h3,k2]
        rfl
       ·simp only [xcH,List.headD_cons,List.tail_cons]
        exact .cons m1 k3
      ·cases h1
     ·rename_i cs cks
      obtain ⟨vs,rfl,m3⟩:=m2
      have hl:=xex h1
      have hlen:=m3.len
      refine ⟨cs++rcs,vs++cvs,m3.append k1,?_,?_⟩
      ·have:xaA (.agg cks::rs)=cks++xaA rs:=by simp [xaA,RS.cks]
       rw [this]
       exact xey h1 k2
      ·simp only [xcH]
       rw [List.take_left' (by omega),List.drop_left' (by omega)]
       exact .cons m1 k3
     ·cases h1
    ·cases h
   ·cases h
  ·cases h
 | [],_::_,_,_,_,h=>by simp [xeg] at h
 | _::_,[],_,_,_,h=>by simp [xeg] at h
def hits (F:Fr) (c:Cell) (k:CK):Option Nat:=match k,c with
 | .own _ _ _,.own id=>some id
 | .pv,.own id=>match lk F.rows id with
  | some r=>if r.kind=.shared then none else some id
  | none=>none
 | _,_=>none
theorem xgF {u u':List Nat} {c:Cell} {k:CK} {p:PV} (h:xdH F u c k=some (p,u')):(hits F c k=none∧u'=u)∨∃id,hits F c k=some id∧id∉u∧u'=id::u:=by
 cases k with
 | pv =>
  simp only [xdH] at h
  split at h
  ·rename_i id
   split at h
   ·rename_i r hr
    split at h
    ·rename_i hk;injection h with h;injection h with _ h;exact .inl ⟨by simp [hits,hr,hk],h.symm⟩
    ·rename_i hk
     split at h
     ·rename_i hu;injection h with h;injection h with _ h;exact .inr ⟨id,by simp [hits,hr,hk],by simpa using hu,h.symm⟩
     ·cases h
   ·cases h
  ·rename_i hne
   split at h
   ·injection h with h;injection h with _ h
    refine .inl ⟨?_,h.symm⟩
    cases c<;>first | rfl | exact (hne _ rfl).elim
   ·cases h
 | sc =>
  simp only [xdH] at h
  split at h
  ·injection h with h;injection h with _ h;exact .inl ⟨by cases c<;>rfl,h.symm⟩
  ·cases h
 | own deep e sz =>
  simp only [xdH] at h
  split at h
  ·split at h
   ·injection h with h;injection h with _ h;exact .inl ⟨rfl,h.symm⟩
   ·cases h
  ·rename_i id
   split at h
   ·split at h
    ·rename_i hc;injection h with h;injection h with _ h;exact .inr ⟨id,rfl,by simpa using hc.2.2.2,h.symm⟩
    ·cases h
   ·cases h
  ·cases h
def xgt (F:Fr) (cs:List Cell) (ks:List CK) (i:Nat):Option Nat:=match cs[i]?,ks[i]? with
 | some c,some k=>hits F c k
 | _,_=>none
theorem xd6:∀{cs:List Cell} {ks:List CK} {u u':List Nat} {ps:List PV},xaV F u cs ks=some (ps,u')→(∀i id,xgt F cs ks i=some id→id∉u)∧∀i j id,xgt F cs ks i=some id→xgt F cs ks j=some id→i=j
 | [],[],u,u',ps,h=>⟨fun i id e=>by simp [xgt] at e,fun i j id e=>by simp [xgt] at e⟩
 | c::cs,k::ks,u,u',ps,h=>by
  simp only [xaV] at h
  split at h
  ·rename_i p u1 e1
   split at h
   ·rename_i ps' u2 e2
    obtain ⟨h1,h2⟩:=xd6 e2
    have hs:∀i,xgt F (c::cs) (k::ks) (i+1)=xgt F cs ks i:=fun i=>by simp [xgt]
    have hz:xgt F (c::cs) (k::ks) 0=hits F c k:=rfl
    have hsub:∀x,x∈u→x∈u1:=by
     intro x hx
     rcases xgF e1 with ⟨_,e⟩ | ⟨id,_,_,e⟩<;>rw [e]<;>simp [hx]
    have h0:∀id,hits F c k=some id→id∉u∧id∈u1:=by
     intro id hid
     rcases xgF e1 with ⟨e,_⟩ | ⟨id',e,hn,e'⟩
     ·rw [e] at hid;cases hid
     ·rw [e] at hid;injection hid with hid;subst hid;exact ⟨hn,by rw [e'];simp⟩
    refine ⟨fun i id e=>?_,fun i j id ei ej=>?_⟩
    ·cases i with
     | zero=>exact (h0 id (by rw [←hz];exact e)).1
     | succ i=>rw [hs] at e;exact fun hm=>h1 i id e (hsub id hm)
    ·cases i with
     | zero =>
      cases j with
      | zero=>rfl
      | succ j=>rw [hs] at ej;rw [hz] at ei;exact (h1 j id ej (h0 id ei).2).elim
     | succ i =>
      cases j with
      | zero=>rw [hs] at ei;rw [hz] at ej;exact (h1 i id ei (h0 id ej).2).elim
      | succ j=>rw [hs] at ei ej;rw [h2 i j id ei ej]
   ·cases h
  ·cases h
 | [],_::_,_,_,_,h=>by simp [xaV] at h
 | _::_,[],_,_,_,h=>by simp [xaV] at h
theorem xhG:∀{cs:List Cell} {ks:List CK} {u u':List Nat} {ps:List PV},xaV F u cs ks=some (ps,u')→∀{i:Nat} {c:Cell} {k:CK},cs[i]? = some c→ks[i]? = some k→∃u1 u2,xdH F u1 c k=some (atP ps i,u2)
 | c::cs,k::ks,u,u',ps,h,i,c',k',hc,hk=>by
  simp only [xaV] at h
  split at h
  ·rename_i p u1 e1
   split at h
   ·rename_i ps' u2 e2
    injection h with h;injection h with e3 e4;subst e3
    cases i with
    | zero=>simp at hc hk;subst hc;subst hk;exact ⟨u,u1,e1⟩
    | succ i =>
     obtain ⟨x,y,hxy⟩:=xhG e2 (by simpa using hc) (by simpa using hk)
     exact ⟨x,y,by simpa [atP] using hxy⟩
   ·cases h
  ·cases h
 | [],[],u,u',ps,h,i,c',k',hc,hk=>by simp at hc
 | [],_::_,_,_,_,h,_,_,_,_,_=>by simp [xaV] at h
 | _::_,[],_,_,_,h,_,_,_,_,_=>by simp [xaV] at h
def xi4 (cs:List Cell) (ks:List CK) (id:Nat):Option Nat:=(List.range ks.length).find? fun i=>match ks[i]?,cs[i]? with
 | some (.own _ _ _),some (.own j)=>decide (j=id)
 | _,_=>false
def xoP (ks:List CK) (G:Gh) (i id x:Nat):Bool:=match ks[i]? with
 | some (.own true _ _)=>true
 | _=>match G.row id with | some v=>decide (v.ownBlock=some x) | none=>false
def xdr (cs:List Cell) (ks:List CK) (G:Gh) (x:Nat):Option Nat:=match G.own x with
 | some id=>match xi4 cs ks id with
  | some i=>if xoP ks G i id x=true then some i else none
  | none=>none
 | none=>none
theorem xfq {cs:List Cell} {ks:List CK} {id i:Nat} (h:xi4 cs ks id=some i):i<ks.length∧∃deep e sz,ks[i]? = some (.own deep e sz)∧cs[i]? = some (.own id):=by
 have h1:=List.mem_of_find?_eq_some h
 have h2:=List.find?_some h
 refine ⟨List.mem_range.1 h1,?_⟩
 split at h2
 ·rename_i deep e sz j e1 e2
  have:j=id:=of_decide_eq_true h2
  subst this
  exact ⟨deep,e,sz,e1,e2⟩
 ·cases h2
theorem xou {cs:List Cell} {ks:List CK} {u u':List Nat} {ps:List PV} (ho:xaV F u cs ks=some (ps,u')) {id i:Nat} {deep:Bool} {e:TypeId} {sz:Nat} (hk:ks[i]? = some (.own deep e sz)) (hc:cs[i]? = some (.own id)):xi4 cs ks id=some i:=by
 have hi:i<ks.length:=by
  rcases Nat.lt_or_ge i ks.length with h' | h'
  ·exact h'
  ·simp [List.getElem?_eq_none h'] at hk
 cases hf:xi4 cs ks id with
 | none =>
  have:=List.find?_eq_none.1 hf i (List.mem_range.2 hi)
  simp [hk,hc] at this
 | some j =>
  obtain ⟨_,d',e',s',h1,h2⟩:=xfq hf
  have:=(xd6 ho).2 i j id (by simp [xgt,hc,hk,hits]) (by simp [xgt,h1,h2,hits])
  rw [this]
theorem xot {cs:List Cell} {ks:List CK} {u u':List Nat} {ps:List PV} (ho:xaV F u cs ks=some (ps,u')) {id i:Nat} {r:Row} (hk:ks[i]? = some .pv) (hc:cs[i]? = some (.own id)) (hr:lk F.rows id=some r) (hn:r.kind≠.shared):xi4 cs ks id=none:=by
 cases hf:xi4 cs ks id with
 | none=>rfl
 | some j =>
  obtain ⟨_,d',e',s',h1,h2⟩:=xfq hf
  have:=(xd6 ho).2 i j id (by simp [xgt,hc,hk,hits,hr,hn]) (by simp [xgt,h1,h2,hits])
  subst this
  rw [hk] at h1
  cases h1
theorem xaN.get {G:Gh} {w:World}:∀{cs:List Cell} {vs:List Value} {i:Nat} {v:Value},xaN G w cs vs→vs[i]? = some v→∃c,cs[i]? = some c∧xdb G w c v
 | [],vs,i,v,h,e=>by have:vs=[]:=h;subst this;simp at e
 | c::cs,vs,i,v,⟨u,r,e,h1,h2⟩,hv=>by
  subst e
  cases i with
  | zero=>simp at hv;subst hv;exact ⟨c,rfl,h1⟩
  | succ i=>obtain ⟨c',k1,k2⟩:=xaN.get h2 (by simpa using hv);exact ⟨c',by simpa using k1,k2⟩
theorem xop (hS0:∀x,w0.S x→x<w0.w.heap.size) (hR:Rel w0 G F a w) {rcs:List Cell} {cvs:List Value} {sg:List RS} {out:List PV} {u u':List Nat} (hrc:xaN G w rcs cvs) (ho:xaV F u rcs (xaA sg)=some (out,u')) (hsc:scs (xaA sg) out) :
 ∃S' no,Post sg out w0.S w0.w (xp3 (xcH sg cvs)) w S' no cvs:=by
 obtain ⟨l1,l2⟩:=xex ho
 have l3:=hrc.len
 have hno:∀x,G.own x=none→xdr rcs (xaA sg) G x=none:=fun x hx=>by simp [xdr,hx]
 refine ⟨fun x=>w0.S x∨G.S x∨(G.own x≠none∧xdr rcs (xaA sg) G x=none),xdr rcs (xaA sg) G,rfl,hR.below,fun x hx=>.inl hx,fun x hx=>?_,fun x i hx=>?_,by omega,l2,fun i ck v hck hv=>?_,fun x i hx=>?_⟩
 rotate_left 3
 ·unfold xdr at hx
  split at hx
  ·rename_i id hid
   exact hR.wr x id hid
  ·cases hx
 rotate_right 3
 ·have hs:=hR.below.size
  rcases hx with hx | hx | hx
  ·have h1:=hS0 x hx
   refine ⟨hno x ?_,by omega,.inl hx⟩
   cases h:G.own x with
   | none=>rfl
   | some id=>have:=(hR.own x id h).1;omega
  ·have h1:=hR.stb x hx
   exact ⟨hno x h1.1,h1.2,hR.sub x hx⟩
  ·refine ⟨hx.2,?_⟩
   cases h:G.own x with
   | none=>exact absurd h hx.1
   | some id=>have:=hR.own x id h;exact ⟨this.2,.inr this.1⟩
 ·unfold xdr at hx
  split at hx
  ·rename_i id hid
   have h1:=hR.own x id hid
   split at hx
   ·rename_i j hj
    split at hx
    ·injection hx with hx
     subst hx
     exact ⟨h1.1,h1.2,(xfq hj).1⟩
    ·cases hx
   ·cases hx
  ·cases hx
 ·obtain ⟨c,hc,hcv⟩:=hrc.get hv
  obtain ⟨u1,u2,hout⟩:=xhG ho hc hck
  have hGS:∀{ps:List PV} {vs:List Value},xbp G.S w ps vs→xbp (fun x=>w0.S x∨G.S x∨(G.own x≠none∧xdr rcs (xaA sg) G x=none)) w ps vs:=fun h=>h.carry (fun x hx=>.inr (.inl hx)) fun _ _=>rfl
  cases ck with
  | pv =>
   show xbp _ w [atP out i] [v]
   simp only [xdH] at hout
   split at hout
   ·rename_i id
    split at hout
    ·rename_i r hr
     have hok:=hR.rows id r v hr hcv
     split at hout
     ·rename_i hk
      injection hout with hout;injection hout with hout _
      rw [←hout]
      unfold xbk at hok
      rw [hk] at hok
      exact hGS hok
     ·rename_i hk
      split at hout
      ·injection hout with hout;injection hout with hout _
       rw [←hout]
       have hnone:=xot ho hck hc hr hk
       refine (xbk.shared hR hok).carry (fun x hx=>?_) fun _ _=>rfl
       rcases hx with hx | hx
       ·exact .inr (.inl hx)
       ·exact .inr (.inr ⟨by rw [hx];simp,by simp [xdr,hx,hnone]⟩)
      ·cases hout
    ·cases hout
   ·rename_i hne
    split at hout
    ·rename_i p hp
     injection hout with hout;injection hout with hout _
     rw [←hout]
     refine hGS ?_
     cases c<;>simp only [xa5] at hp<;>first | (exact (hne _ rfl).elim) | (cases hp;done) | skip
     ·injection hp with hp;subst hp;exact hcv
     ·injection hp with hp;subst hp;have:v=.slice none 0 0:=hcv;subst this;exact ⟨[],.lnil .nil,by simp⟩
     ·injection hp with hp;subst hp;have:v=.bool _:=hcv;subst this;exact xbp.bool
    ·cases hout
  | sc =>
   show xbp _ w [atP out i] [v]
   simp only [xdH] at hout
   split at hout
   ·rename_i p hp
    injection hout with hout;injection hout with hout _
    obtain ⟨N,h1,h2⟩:=xaR hp hcv
    have hfl:p.flat=true:=by
     have hz:(CK.sc,p)∈(xaA sg).zip out:=by
      have hlt:i<out.length:=by
       rw [l2]
       rcases Nat.lt_or_ge i (xaA sg).length with h' | h'
       ·exact h'
       ·simp [List.getElem?_eq_none h'] at hck
      refine List.mem_iff_getElem?.2 ⟨i,?_⟩
      rw [List.getElem?_zip_eq_some]
      refine ⟨hck,?_⟩
      rw [hout]
      simp [atP,List.getD,List.getElem?_eq_getElem hlt]
     exact hsc _ hz rfl
    have:N=[]:=xak.flat_nil (fun q hq=>by simp at hq;rw [hq];exact hfl) h1
    subst this
    rw [←hout]
    exact ⟨[],h1,by simp⟩
   ·cases hout
  | own deep e sz =>
   show xbk ⟨_,xdr rcs (xaA sg) G,fun _=>none,fun _=>none⟩ w i ⟨if deep then .deep else .flat,e,sz,atP out i⟩ v
   have hns:(if deep=true then RK.deep else RK.flat)≠.shared:=by cases deep<;>simp
   simp only [xdH] at hout
   split at hout
   ·split at hout
    ·rename_i hcond
     injection hout with hout;injection hout with hout _
     rw [←hout]
     have:v=.slice none 0 0:=hcv
     subst this
     refine xg4 hns ⟨Nat.pos_of_ne_zero hcond.2.2,[],[],[],rfl,by simp,.nil,World.ownsRow_nil _ _ _ _,fun b hb=>by simp [Value.ownBlock] at hb,?_⟩
     split<;>simp
    ·cases hout
   ·rename_i id
    split at hout
    ·rename_i r hr
     split at hout
     ·rename_i hcond
      obtain ⟨he,hsz,hkd,_⟩:=hcond
      injection hout with hout;injection hout with hout _
      rw [←hout]
      have hok:=hR.rows id r v hr hcv
      have hidx:=xou ho hck hc
      unfold xbk at hok
      split at hok
      ·rename_i hk;rw [hk] at hkd;simp at hkd
      ·obtain ⟨hs,rows,xs,N,hre,hl,hvv,hown,hb,hkk⟩:=hok
       have hkeep:∀b,v.ownBlock=some b→xoP (xaA sg) G i id b=true:=by
        intro b hb'
        have hrow:G.row id=some v:=hcv
        unfold xoP
        split
        ·rfl
        ·simp [hrow,hb']
       refine xg4 hns ⟨by show 0<sz;rw [←hsz];exact hs,rows,xs,N,by rw [hre,hsz],by rw [←hsz];exact hl,hvv,by rw [←hsz,←he];exact hown,fun b hb'=>?_,?_⟩
       ·show xdr rcs (xaA sg) G b=some i
        simp [xdr,hb b hb',hidx,hkeep b hb']
       ·cases deep with
        | true =>
         have hd:r.kind=.deep:=by rcases hkd with h | h;exact h;cases h.2
         rw [if_pos hd] at hkk
         simp only [if_true]
         refine ⟨hkk.1,fun x hx=>⟨?_,(hkk.2 x hx).2⟩⟩
         show xdr rcs (xaA sg) G x=some i
         simp [xdr,(hkk.2 x hx).1,hidx,xoP,hck]
        | false =>
         have hne:¬(RK.flat=RK.deep):=by intro h;cases h
         simp only [Bool.false_eq_true,if_false,hne]
         intro x hx
         by_cases hd:r.kind=.deep
         ·rw [if_pos hd] at hkk
          obtain ⟨q1,q2⟩:=hkk.2 x hx
          have hrow:G.row id=some v:=hcv
          exact .inr (.inr ⟨by rw [q1];simp,by simp [xdr,q1,hidx,xoP,hck,hrow,q2]⟩)
         ·rw [if_neg hd] at hkk
          exact .inr (.inl (hkk x hx))
     ·cases hout
    ·cases hout
   ·cases hout
theorem xdY.len {S:Nat→Prop}:∀{av:List AV} {vs:List Value},xdY S w av vs→av.length=vs.length
 | [],_,h=>by have:=h;subst this;rfl
 | _::_,_,⟨_,_,e,_,h⟩=>by subst e;simp [xdY.len h]
theorem xoi {S:Nat→Prop} {no:Nat→Option Nat} {rw':Nat→Option Value} {bx:Nat→Option Nat}:∀{caps:List RO} {vs:List Value},xpy.ro S w caps vs→xbD ⟨S,no,rw',bx⟩ w (caps.map .ro) vs
 | [],_,h=>h
 | _::_,_,⟨v,r,e,h1,h2⟩=>⟨v,r,e,h1,xoi h2⟩
theorem xjT {S:Nat→Prop} {no:Nat→Option Nat} {rw':Nat→Option Value} {bx:Nat→Option Nat}:∀{av:List AV} {vs:List Value} {i t:Nat} {tv:TV},xdY S w av vs→lk (xec i av) t=some tv→∃v,i≤t∧vs[t-i]? = some v∧xcy ⟨S,no,rw',bx⟩ w tv v
 | [],vs,i,t,tv,_,h=>by simp [xec,lk] at h
 | x::av,vs,i,t,tv,⟨v,r,e,h1,h2⟩,h=>by
  subst e
  have next:∀{y:TV},lk ((i,y)::xec (i+1) av) t=some tv→xcy ⟨S,no,rw',bx⟩ w y v→∃u,i≤t∧(v::r)[t-i]? = some u∧xcy ⟨S,no,rw',bx⟩ w tv u:=by
   intro y h9 hy
   simp only [xas] at h9
   split at h9
   ·rename_i hit
    injection h9 with h9
    rw [←h9,←hit]
    exact ⟨v,Nat.le_refl _,by simp,hy⟩
   ·obtain ⟨u,k1,k2,k3⟩:=xjT h2 h9
    refine ⟨u,by omega,?_,k3⟩
    rw [show t-i=(t-(i+1))+1 by omega]
    simpa using k2
  cases x with
  | one p=>exact next (y:=.one (.pv p)) (by simpa [xec] using h) h1
  | agg ps =>
   obtain ⟨us,rfl,N,k1,k2⟩:=h1
   exact next (y:=.agg (ps.map .pv)) (by simpa [xec] using h) ⟨us,rfl,xaN.of_vals k1 k2⟩
  | fn f caps =>
   obtain ⟨us,rfl,k1⟩:=h1
   exact next (y:=.one (.fn f (caps.map .ro))) (by simpa [xec] using h) ⟨us,rfl,xoi k1⟩
  | ro c=>cases c with
   | cells cells=>exact next (y:=.one (.sptr cells)) (by simpa [xec] using h) h1
   | fn f q=>exact next (y:=.one (.sfn f q)) (by simpa [xec] using h) h1
  | nil e sz=>exact next (y:=.one (.nil e sz)) (by simpa [xec] using h) h1
theorem xfo {rs:Array ResultVar} {vs:List Value} (h:xir P a w rs.toList vs) (g:ResultVar→Sem Value) (K:Array Value→Sem Value)
 (hg:∀r v,(xi0 a r).run P w=.ok v w→(g r).run P w=.ok v w) :
 ((rs.mapM g >>= K):Sem Value).run P w=(K vs.toArray).run P w:=by
 have hm:∀{l:List ResultVar} {vs:List Value},xir P a w l vs→(l.mapM g).run P w=.ok vs w:=by
  intro l vs h
  induction h with
  | nil=>simp
  | cons h1 _ ih =>
   rw [List.mapM_cons]
   simp only [Sem.run_bind,hg _ _ h1,Result.andThen_ok,ih,Sem.run_pure]
 rw [Sem.run_bind,Array.mapM_eq_mapM_toList]
 have h:=hm h
 simp [h]
theorem xuz (hT : xaz P T) (hC : xdx P T C) {f : FuncId} {fn : Func} {keep : List (Nat × Bool)} {sg : List RS} {av : List AV} {out : List PV} (hf : P.funcs[f]? = some fn) (hname : (fn.name == "runtime.NumGoroutine") = false) (hlen : av.length ≤ fn.ntmps)
 (h:runs C T keep fn sg av (fun o=>o=out)):xgS P sg f av out:=by
 unfold runs at h
 split at h
 ·rename_i c hbody
  refine ⟨⟨fn,hf,hname,by rw [hbody];rfl⟩,fun w S vals hE hS hv=>?_⟩
  refine calls_of_wp hf hbody ?_
  have hl:=hv.len
  let w0:Base:=⟨w,S,hE,fun _ _=>False⟩
  have hSt:St w0 ⟨S,fun _=>none,fun _=>none,fun _=>none⟩ ⟨xec 0 av,[],[],0,fn.ntmps,[]⟩ { tmps:=vals.toArray++Array.replicate (fn.ntmps-vals.toArray.size) undef,defers:=[] } w:=by
   refine ⟨⟨.refl _ _,rfl,by simp;omega,fun t tv e=>?_,fun k cells b e=>(nomatch e),fun id r v e=>(nomatch e),fun x hx=>⟨rfl,hS x hx⟩,fun x id e=>(nomatch e),fun id v e=>(nomatch e),fun x hx=>.inl hx,fun x id e=>(nomatch e),fun tv v h=>h.elim⟩,
    fun id _=>⟨rfl,rfl,fun x=>by simp⟩,fun id r e=>(nomatch e),fun id r e=>(nomatch e),fun id r c e=>(nomatch e)⟩
   obtain ⟨v,h1,h2,h3⟩:=xjT (no:=fun _=>none) (rw':=fun _=>none) (bx:=fun _=>none) hv e
   have hlt:t<vals.length:=by
    rcases Nat.lt_or_ge t vals.length with h' | h'
    ·exact h'
    ·rw [Nat.sub_zero,List.getElem?_eq_none h'] at h2;cases h2
   refine ⟨v,?_,h3⟩
   rw [Array.getElem?_append_left (by simpa using hlt)]
   simpa using h2
  have hend:∀(F:Fr) (G:Gh) (a':Act) (w':World),St w0 G F a' w'→(match xeg T F [] fn.results.toList sg with | some (o,_)=>scs (xaA sg) o∧o=out | none=>False) →
   a'.defers=[]∧∃v,(results fn a'.tmps).run P w'=.ok v w'∧∃v' S' no cvs,Ending.returned v=.returned v'∧Post sg out S w v' w' S' no cvs:=by
   intro F G a' w' hS' hk
   split at hk
   ·rename_i o u ho
    obtain ⟨hsc,rfl⟩:=hk
    obtain ⟨rcs,cvs,k1,k2,k3⟩:=xhH hT hS'.rel ho
    obtain ⟨S',no,hp⟩:=xop (w0:=w0) hS hS'.rel k1 k2 hsc
    refine ⟨hS'.rel.defers,xp3 (xcH sg cvs),?_,_,S',no,cvs,rfl,hp⟩
    unfold results
    refine (xfo (P:=P) (w:=w') k3 _ _ fun r v hr=>?_).trans ?_
    ·cases r<;>exact hr
    ·match hq:xcH sg cvs with
     | []=>rfl
     | [v]=>rfl
     | v1::v2::vs=>rfl
   ·exact hk.elim
  refine xbF hT hC keep c h hSt fun o F G a' w' hS' hk=>?_
  cases o with
  | norm=>exact hend F G a' w' hS' hk
  | ret=>exact hend F G a' w' hS' hk
  | exit i=>exact hk.elim
 ·exact h.elim
theorem xkw (hT:xaz P T) (hR:Rel w0 G F a w):∀{rvs:List ResultVar} {tvs:List TV},xhD T F rvs=some tvs→∃vs:List Value,xir P a w rvs vs∧xcy.RepTs G w tvs vs
 | [],tvs,h=>by simp only [xhD] at h;injection h with h;subst h;exact ⟨[],.nil,rfl⟩
 | rv::rvs,tvs,h=>by
  simp only [xhD] at h
  split at h
  ·rename_i tv ts e1 e2
   injection h with h
   subst h
   obtain ⟨v,k1,k2⟩:=xmF hT hR e1
   obtain ⟨vs,k3,k4⟩:=xkw hT hR e2
   exact ⟨v::vs,.cons k1 k3,v,vs,rfl,k2,k4⟩
  ·cases h
theorem xnq {tvs:List TV} {vs:List Value} (h:xcy.RepTs G w tvs vs):xcy G w (xkv tvs) (xp3 vs):=by
 cases tvs with
 | nil =>
  have:vs=[]:=h
  subst this
  intro b hb
  cases hb
 | cons t ts =>
  obtain ⟨v,r,e,h1,h2⟩:=h
  subst e
  cases ts with
  | nil =>
   have:r=[]:=h2
   subst this
   exact h1
  | cons t' ts' =>
   obtain ⟨v',r',e',h3,h4⟩:=h2
   subst e'
   exact ⟨v::v'::r',rfl,v,_,rfl,h1,v',r',rfl,h3,h4⟩
theorem xoS (hT:xaz P T) (fn:Func) {F':Fr} {G':Gh} {a':Act} {w':World} {k:TV→Fr→Prop} (hS':St w0 G' F' a' w') (hk:match xhD T F' fn.results.toList with | some tvs=>k (xkv tvs) F' | none=>False) :
 a'.defers=[]∧∃v,(results fn a'.tmps).run P w'=.ok v w'∧∃v',Ending.returned v=.returned v'∧∃tv F'' G'' a'',St w0 G'' F'' a'' w'∧xcy G'' w' tv v'∧k tv F'':=by
 split at hk
 ·rename_i tvs hr
  obtain ⟨vs,k1,k2⟩:=xkw hT hS'.rel hr
  refine ⟨hS'.rel.defers,xp3 vs,?_,_,rfl,xkv tvs,F',G',a',hS',xnq k2,hk⟩
  unfold results
  refine (xfo (P:=P) (w:=w') k1 _ _ fun r v hr=>?_).trans ?_
  ·cases r<;>exact hr
  ·match hq:vs with
   | []=>rfl
   | [v]=>rfl
   | v1::v2::vs=>rfl
 ·exact hk.elim
end
end Go.Ev
/- Functions that write a count into all that they are handed: their operations, one after the other. -/
namespace Go.Ev
open Go.RowKit
inductive SV where
 | arr | idx | kk | len | cnd | txt | kinc | iinc | res | zero | krem | kbool
 | ptr (off:Nat)
 | ld (off:Nat) (n:Option Nat)
 deriving DecidableEq
structure En where
 arr:Value
 i:Nat
 n:Nat
 b:Nat
 base:Nat
 cells:List Value
 k:Int
 kr:Int
 tx:ByteArray
def En.val (E:En):SV→Value
 | .arr=>E.arr
 | .idx=>.int .i64 E.i
 | .kk=>.int .i64 E.k
 | .len=>.int .i64 E.n
 | .cnd=>.bool (decide (E.i<E.n))
 | .txt=>.string E.tx
 | .kinc=>.int .i64 (IntKind.i64.wrap (E.k+1))
 | .iinc=>.int .i64 (IntKind.i64.wrap ((E.i:Int)+1))
 | .res=>.int .i64 E.kr
 | .zero=>.int .i64 0
 | .krem=>.int .i64 (E.k.tmod 3)
 | .kbool=>.bool (E.k.tmod 3==0)
 | .ptr off=>.pointer (some ⟨E.b,E.base+off,none⟩)
 | .ld off none=>E.cells.getD off undef
 | .ld off (some m)=>.agg ((E.cells.drop off).take m).toArray
inductive Eff where
 | store (off:Nat) (t:Nat)
 | call (off:Nat) (n:Option Nat) (f:FuncId)
inductive MO where
 | pur (v:SV)
 | text
 | store (off:Nat) (t:Nat)
 | call (off:Nat) (n:Option Nat) (f:FuncId)
def svO (rg:List (Nat×SV)):Operand→Option SV
 | .tmp t=>lk rg t
 | .const (.int .i64 z)=>if z=0 then some .zero else none
 | _=>none
def xtn:Operand→Bool
 | .const (.int .i64 z)=>decide (z=1)
 | _=>false
def xoQ:Operand→Bool
 | .const (.int .i64 z)=>decide (z=3)
 | _=>false
def mop (T:Tab) (st:TypeId) (tx:FuncId) (esz:Nat) (rg:List (Nat×SV)) (o:Oper):Option MO :=
 match o.op with
 | .move x=>(svO rg x).map .pur
 | .assign x=>(svO rg x).map .pur
 | .binOp op t x y _=>match op with
  | .add=>if xtn y=true then (match svO rg x with | some .kk=>some (.pur .kinc) | some .idx=>some (.pur .iinc) | _=>none) else none
  | .lss=>match svO rg x,svO rg y with | some .idx,some .len=>some (.pur .cnd) | _,_=>none
  | .rem=>if xoQ y=true∧svO rg x=some .kk then some (.pur .krem) else none
  | .eql=>if svO rg y=some .zero∧svO rg x=some .krem then some (.pur .kbool) else none
  | _=>none
 | .call c=>match c.callee,c.args.toList with
  | .builtin .len,[x]=>match svO rg x,c.argTypes.toList with | some .arr,[t]=>if t=st∧T.esz st≠0 then some (.pur .len) else none | _,_=>none
  | .value (.func f),[x]=>if f=tx∧svO rg x=some .kk then some .text else none
  | .value (.func f),[x,y]=>match svO rg x,svO rg y with | some (.ld off n),some .kk=>some (.call off n f) | _,_=>none
  | _,_=>none
 | .indexAddr t x y=>if t=st∧T.esz st≠0∧svO rg x=some .arr∧svO rg y=some .idx then some (.pur (.ptr 0)) else none
 | .fieldAddr s x i=>match svO rg x,lk T.ti s with
  | some (.ptr off),some ti=>match ti.flds[i]? with
   | some f=>if ti.agg=true∧T.sz f.2≠0 then some (.pur (.ptr (off+f.1))) else none
   | none=>none
  | _,_=>none
 | .load t x=>match svO rg x,lk T.ti t with
  | some (.ptr off),some i=>if off+i.size≤esz then some (.pur (.ld off (if i.agg=true then some i.size else none))) else none
  | _,_=>none
 | .store t x y=>match svO rg x,svO rg y,lk T.ti t with
  | some (.ptr off),some v,some i=>if i.agg=false∧i.size=1 then (match v with | .kk=>some (.store off 0) | .txt=>some (.store off 1) | .kbool=>some (.store off 2) | _=>none) else none
  | _,_,_=>none
 | _=>none
def xwr:SV→Bool | .ld _ _=>true | _=>false
def xtg (rg:List (Nat×SV)):Bool:=rg.all fun x=>!decide (x.2=.res)
def xwB (rg:List (Nat×SV)):Bool:=rg.all fun x=>!xwr x.2
def xnX (rg:List (Nat×SV)) (d:Option Tmp) (v:SV):List (Nat×SV):=match d with | some d=>(d,v)::rg | none=>rg
def xo7 (nt:Nat) (d:Option Tmp):Bool:=match d with | some d=>decide (d<nt) | none=>true
def mops (T:Tab) (st:TypeId) (tx:FuncId) (nt esz:Nat):List Oper→List (Nat×SV)→Option Eff→Option (List (Nat×SV)×Option Eff)
 | [],rg,e=>some (rg,e)
 | o::r,rg,e=>if o.guard.isNone=true∧xo7 nt o.dst=true then (match mop T st tx esz rg o with
  | some (.pur v)=>(match v with
   | .ld _ _=>if e.isNone=true then mops T st tx nt esz r (xnX rg o.dst v) e else none
   | _=>mops T st tx nt esz r (xnX rg o.dst v) e)
  | some .text=>if e.isNone=true then mops T st tx nt esz r (xnX rg o.dst .txt) e else none
  | some (.store off t)=>if e.isNone=true∧xwB rg=true∧xtg rg=true∧o.dst=none then mops T st tx nt esz r rg (some (.store off t)) else none
  | some (.call off n f)=>if e.isNone=true∧xtg rg=true then mops T st tx nt esz r (xnX rg o.dst .res) (some (.call off n f)) else none
  | none=>none) else none
inductive MM where
 | sl (m:PV→Int→Option (PV×Int))
 | st (m:List PV→Int→Option (List PV×Int))
def rg64 (k:Int):Bool:=decide (-9223372036854775808≤k)&&decide (k≤9223372036854775807)
def xr6 (mt:Int→ByteArray) (k:Int):Nat→PV
 | 0=>.int .i64 k
 | 1=>.str (mt k)
 | _=>.bool (k.tmod 3==0)
def xj4 (ρ:List (Nat×MM)) (mt:Int→ByteArray) (k:Int):Eff→List PV→Option (List PV×Int)
 | .store off t,r=>match r[off]? with
  | some p=>if p.flat=true then some (r.set off (xr6 mt k t),k) else none
  | none=>none
 | .call off none f,r=>match r[off]?,lk ρ f with
  | some p,some (.sl m)=>match m p k with
   | some (p',k')=>if rg64 k'=true then some (r.set off p',k') else none
   | none=>none
  | _,_=>none
 | .call off (some n) f,r=>match lk ρ f with
  | some (.st m)=>if off+n≤r.length then (match m ((r.drop off).take n) k with
   | some (q,k')=>if rg64 k'=true then some (r.take off++q++r.drop (off+n),k') else none
   | none=>none) else none
  | _=>none
def xur (P : Program) (f : FuncId) : Prop := ∃ fn, P.funcs[f]? = some fn ∧ (fn.name == "runtime.NumGoroutine") = false ∧ fn.body.isNone = false
def xlA (P:Program) (f:FuncId):MM→Prop
 | .sl m=>∀p k p' k',m p k=some (p',k')→rg64 k=true→xur P f∧PV.like p p'∧∀(w:World) (v:Value) (N:List Nat),xak w [p] [v] N→N.Nodup→(∀b∈N,Wr1 w b) →
  Calls P f #[v,.int .i64 k] w fun e w'=>e=.returned (.int .i64 k')∧Mod N w w'∧xak w' [p'] [v] N
 | .st m=>∀ps k ps' k',m ps k=some (ps',k')→rg64 k=true→xur P f∧Likes ps ps'∧∀(w:World) (vs:List Value) (Ns:List (List Nat)),xaB w ps vs Ns→Ns.flatten.Nodup→(∀b∈Ns.flatten,Wr1 w b) →
  Calls P f #[.agg vs.toArray,.int .i64 k] w fun e w'=>e=.returned (.int .i64 k')∧Mod Ns.flatten w w'∧xaB w' ps' vs Ns
def xiQ (P:Program):List (Nat×MM)→Prop
 | []=>True
 | x::l=>xlA P x.1 x.2∧xiQ P l
theorem xnu {P:Program}:∀{l:List (Nat×MM)} {f:FuncId} {m:MM},xiQ P l→lk l f=some m→xlA P f m
 | [],f,m,_,h=>by cases h
 | (g,x)::l,f,m,⟨h1,h2⟩,h=>by
  rw [xas] at h
  split at h
  ·rename_i e;subst e;injection h with h;subst h;exact h1
  ·exact xnu h2 h
def xgR (P:Program) (tx:FuncId) (mt:Int→ByteArray):Prop:=xur P tx∧∀k,rg64 k=true→∀w,Calls P tx #[.int .i64 k] w fun e w'=>e=.returned (.string (mt k))∧Below w.heap.size w w'
structure PS (w:World) (b base:Nat) (r:List PV) (cells:List Value) (Ns:List (List Nat)):Prop where
 at_:∀j u,cells[j]? = some u→w.cell? ⟨b,base+j,none⟩=some u
 rep:xaB w r cells Ns
 nd:Ns.flatten.Nodup
 wr:∀x∈Ns.flatten,Wr1 w x
 wb:Wr1 w b
 nb:b∉Ns.flatten
structure xnW (b base sz:Nat) (N:List Nat) (w w':World):Prop where
 m:Mod (b::N) w w'
 out:∀j,j<base∨base+sz≤j→w'.cell? ⟨b,j,none⟩=w.cell? ⟨b,j,none⟩
theorem Mod.refl (N:List Nat) (w:World):Mod N w w:=⟨rfl,rfl,rfl,Nat.le_refl _,fun _ _ _=>rfl,fun _ _ c t h=>⟨c,h,rfl⟩⟩
theorem Mod.trans {N:List Nat} {a b c:World} (h:Mod N a b) (k:Mod N b c):Mod N a c :=
 ⟨k.os.trans h.os,k.tape.trans h.tape,k.output.trans h.output,Nat.le_trans h.size k.size,fun x hx hn=>(k.block x (Nat.lt_of_lt_of_le hx h.size) hn).trans (h.block x hx hn),fun x hx c t hc=>by
  obtain ⟨c1,h1,h2⟩:=h.cells x hx c t hc
  obtain ⟨c2,h3,h4⟩:=k.cells x hx c1 t h1
  exact ⟨c2,h3,h4.trans h2⟩⟩
theorem Mod.mono {N M:List Nat} {a b:World} (h:Mod N a b) (hs:∀x∈N,x∈M) (hw:∀x∈M,x<a.heap.size):Mod M a b :=
 ⟨h.os,h.tape,h.output,h.size,fun x hx hn=>h.block x hx fun hm=>hn (hs x hm),fun x hx c t hc=>by
  by_cases hm:x∈N
  ·exact h.cells x hm c t hc
  ·exact ⟨c,(h.block x (hw x hx) hm).trans hc,rfl⟩⟩
theorem Mod.of_below {N:List Nat} {a b:World} (h:Below a.heap.size a b) (hw:∀x∈N,x<a.heap.size):Mod N a b :=
 ⟨h.os,h.tape,h.output,h.size,fun x hx _=>h.block x hx,fun x hx c t hc=>⟨c,(h.block x (hw x hx)).trans hc,rfl⟩⟩
theorem Wr1.lt {w:World} {x:Nat} (h:Wr1 w x):x<w.heap.size:=by
 obtain ⟨c,t,h⟩:=h
 rcases Nat.lt_or_ge x w.heap.size with h' | h'
 ·exact h'
 ·rw [Array.getElem?_eq_none h'] at h;cases h
theorem xnW.refl (b base sz:Nat) (N:List Nat) (w:World):xnW b base sz N w w:=⟨.refl _ _,fun _ _=>rfl⟩
theorem xnW.trans {b base sz:Nat} {N:List Nat} {x y z:World} (h:xnW b base sz N x y) (k:xnW b base sz N y z):xnW b base sz N x z:=⟨h.m.trans k.m,fun j hj=>(k.out j hj).trans (h.out j hj)⟩
theorem xaB.stable {w w':World}:∀{ps:List PV} {vs:List Value} {Ns:List (List Nat)},xaB w ps vs Ns→(∀x∈Ns.flatten,w'.heap[x]? = w.heap[x]?)→xaB w' ps vs Ns
 | [],_,_,h,_=>h
 | p::ps,_,_,⟨v,r,N,Nr,e1,e2,h1,h2⟩,hb=>by
  subst e1;subst e2
  exact ⟨v,r,N,Nr,rfl,rfl,h1.stable fun x hx=>hb x (by simp [hx]),h2.stable fun x hx=>hb x (by simp only [List.flatten_cons,List.mem_append];exact .inr hx)⟩
theorem PS.lt {w:World} {b base:Nat} {r:List PV} {cells:List Value} {Ns:List (List Nat)} (h:PS w b base r cells Ns):∀x∈b::Ns.flatten,x<w.heap.size:=fun x hx=>by
 rcases List.mem_cons.1 hx with rfl | hx
 ·exact h.wb.lt
 ·exact (h.wr x hx).lt
theorem PS.below {w w':World} {b base:Nat} {r:List PV} {cells:List Value} {Ns:List (List Nat)} (h:PS w b base r cells Ns) (hb:Below w.heap.size w w'):PS w' b base r cells Ns∧∀sz,xnW b base sz Ns.flatten w w':=by
 have hB:w'.heap[b]? = w.heap[b]? := hb.block b h.wb.lt
 refine ⟨⟨fun j u hu=>?_,h.rep.stable fun x hx=>hb.block x (h.wr x hx).lt,h.nd,fun x hx=>(h.wr x hx).stay (hb.block x (h.wr x hx).lt),h.wb.stay hB,h.nb⟩,fun sz=>⟨.of_below hb h.lt,fun j _=>?_⟩⟩
 ·rw [World.cell?_of_block (w:=w)]
  ·exact h.at_ j u hu
  ·exact hB
 ·exact World.cell?_of_block (w:=w) hB
end Go.Ev
/- Functions that write a count: what one operation does to the element. -/
namespace Go.Ev
open Go.RowKit
theorem xaB.append {w:World}:∀{p1 p2:List PV} {v1 v2:List Value} {N1 N2:List (List Nat)},xaB w p1 v1 N1→xaB w p2 v2 N2→xaB w (p1++p2) (v1++v2) (N1++N2)
 | [],_,_,_,_,_,⟨e1,e2⟩,h=>by subst e1;subst e2;exact h
 | p::p1,_,_,_,_,_,⟨v,r,N,Nr,e1,e2,h1,h2⟩,h=>by subst e1;subst e2;exact ⟨v,r++_,N,Nr++_,rfl,rfl,h1,h2.append h⟩
theorem xaB.split {w:World}:∀(p1:List PV) {p2:List PV} {vs:List Value} {Ns:List (List Nat)},xaB w (p1++p2) vs Ns →
 ∃v1 v2 N1 N2,vs=v1++v2∧Ns=N1++N2∧v1.length=p1.length∧N1.length=p1.length∧xaB w p1 v1 N1∧xaB w p2 v2 N2
 | [],_,vs,Ns,h=>⟨[],vs,[],Ns,rfl,rfl,rfl,rfl,⟨rfl,rfl⟩,h⟩
 | p::p1,_,_,_,⟨v,r,N,Nr,e1,e2,h1,h2⟩=>by
  subst e1;subst e2
  obtain ⟨v1,v2,N1,N2,rfl,rfl,l1,l2,k1,k2⟩:=xaB.split p1 h2
  exact ⟨v::v1,v2,N::N1,N2,rfl,rfl,by simp [l1],by simp [l2],⟨v,v1,N,N1,rfl,rfl,h1,k1⟩,k2⟩
theorem xaB.lenN {w:World}:∀{ps:List PV} {vs:List Value} {Ns:List (List Nat)},xaB w ps vs Ns→Ns.length=ps.length
 | [],_,_,⟨_,e⟩=>by subst e;rfl
 | q::ps,_,_,⟨v,r,N,Nr,e1,e2,h1,h2⟩=>by subst e2;simp [xaB.lenN h2]
theorem xaB.one' {w:World} {p:PV} {v:Value} {N:List Nat} (h:xak w [p] [v] N):xaB w [p] [v] [N]:=⟨v,[],N,[],rfl,rfl,h,rfl,rfl⟩
theorem xaB.one_inv {w:World} {p:PV} {vs:List Value} {Ns:List (List Nat)} (h:xaB w [p] vs Ns):∃v N,vs=[v]∧Ns=[N]∧xak w [p] [v] N:=by
 obtain ⟨v,r,N,Nr,e1,e2,h1,h2⟩:=h
 obtain ⟨e3,e4⟩:=h2
 subst e3;subst e4;subst e1;subst e2
 exact ⟨v,N,rfl,rfl,h1⟩
theorem PS.part {w w':World} {b base:Nat} {r1 rm r2 rm':List PV} {cells cm:List Value} {Ns Nm:List (List Nat)} (h:PS w b base (r1++(rm++r2)) cells Ns)
 (hcm:cm=(cells.drop r1.length).take rm.length) (hNm:Nm=(Ns.drop r1.length).take rm.length)
 (hM:Mod Nm.flatten w w') (hrep:xaB w' rm' cm Nm):PS w' b base (r1++(rm'++r2)) cells Ns∧∀sz,xnW b base sz Ns.flatten w w':=by
 obtain ⟨c1,cx,N1,Nx,e1,e2,l1,l2,k1,kx⟩:=xaB.split r1 h.rep
 obtain ⟨cm',c2,Nm',N2,e3,e4,l3,l4,km,k2⟩:=xaB.split rm kx
 subst e3;subst e4
 have e5:cm=cm':=by rw [hcm,e1,←l1,List.drop_left,←l3,List.take_left]
 have e6:Nm=Nm':=by rw [hNm,e2,←l2,List.drop_left,←l4,List.take_left]
 subst e5;subst e6
 have hnd:=h.nd
 have hwr:=h.wr
 have hnb:=h.nb
 rw [e2] at hnd hwr hnb
 simp only [List.flatten_append,List.mem_append,not_or,List.nodup_append] at hnd hwr hnb
 have hst:∀x∈N1.flatten,w'.heap[x]? = w.heap[x]? := fun x hx=>hM.block x (hwr x (.inl hx)).lt fun hm=>hnd.2.2 x hx x (.inl hm) rfl
 have hst2:∀x∈N2.flatten,w'.heap[x]? = w.heap[x]? := fun x hx=>hM.block x (hwr x (.inr (.inr hx))).lt fun hm=>hnd.2.1.2.2 x hm x hx rfl
 have hB:w'.heap[b]? = w.heap[b]? := hM.block b h.wb.lt hnb.2.1
 have hsub:∀x∈Nm.flatten,x∈Ns.flatten:=fun x hx=>by rw [e2];simp [hx]
 refine ⟨⟨fun j u hu=>?_,?_,h.nd,fun x hx=>?_,h.wb.stay hB,h.nb⟩,fun sz=>⟨hM.mono (fun x hx=>List.mem_cons_of_mem _ (hsub x hx)) h.lt,fun j _=>World.cell?_of_block (w:=w) hB⟩⟩
 ·rw [World.cell?_of_block (w:=w)]
  ·exact h.at_ j u hu
  ·exact hB
 ·rw [e1,e2]
  exact (k1.stable hst).append (hrep.append (k2.stable hst2))
 ·by_cases hm:x∈Nm.flatten
  ·obtain ⟨c,t,hc⟩:=h.wr x hx
   obtain ⟨c',h1,_⟩:=hM.cells x hm c t hc
   exact ⟨_,_,h1⟩
  ·exact (h.wr x hx).stay (hM.block x (h.wr x hx).lt hm)
theorem xdM {α:Type} {l:List α} {i:Nat} {x:α} (h:l[i]? = some x):l=l.take i++([x]++l.drop (i+1))∧(l.take i).length=i:=by
 have hi:i<l.length:=by
  rcases Nat.lt_or_ge i l.length with h' | h'
  ·exact h'
  ·simp [List.getElem?_eq_none h'] at h
 have hx:l[i]=x:=by simpa [List.getElem?_eq_getElem hi] using h
 refine ⟨?_,by rw [List.length_take];omega⟩
 rw [←hx,List.singleton_append,←List.drop_eq_getElem_cons hi,List.take_append_drop]
theorem xfK {α:Type} {l:List α} {i:Nat} {x:α} (y:α) (h:l[i]? = some x):l.set i y=l.take i++([y]++l.drop (i+1)):=by
 have hi:i<l.length:=by
  rcases Nat.lt_or_ge i l.length with h' | h'
  ·exact h'
  ·simp [List.getElem?_eq_none h'] at h
 rw [List.set_eq_take_append_cons_drop,if_pos hi];rfl
theorem xaB.mid {w:World} {r1 rm r2:List PV} {cells:List Value} {Ns:List (List Nat)} (h:xaB w (r1++(rm++r2)) cells Ns):xaB w rm ((cells.drop r1.length).take rm.length) ((Ns.drop r1.length).take rm.length):=by
 obtain ⟨c1,cx,N1,Nx,e1,e2,l1,l2,k1,kx⟩:=xaB.split r1 h
 obtain ⟨cm',c2,Nm',N2,e3,e4,l3,l4,km,k2⟩:=xaB.split rm kx
 subst e3;subst e4
 have e5:(cells.drop r1.length).take rm.length=cm':=by rw [e1,←l1,List.drop_left,←l3,List.take_left]
 have e6:(Ns.drop r1.length).take rm.length=Nm':=by rw [e2,←l2,List.drop_left,←l4,List.take_left]
 rw [e5,e6];exact km
theorem xqs {Ns:List (List Nat)} (i n:Nat):∀x∈((Ns.drop i).take n).flatten,x∈Ns.flatten:=fun x hx=>by
 obtain ⟨N,h1,h2⟩:=List.mem_flatten.1 hx
 exact List.mem_flatten.2 ⟨N,List.mem_of_mem_drop (List.mem_of_mem_take h1),h2⟩
theorem xoy {Ns:List (List Nat)} (i n:Nat) (h:Ns.flatten.Nodup):((Ns.drop i).take n).flatten.Nodup:=by
 have e:Ns=Ns.take i++((Ns.drop i).take n++(Ns.drop i).drop n):=by rw [List.take_append_drop,List.take_append_drop]
 rw [e] at h
 simp only [List.flatten_append,List.nodup_append] at h
 exact h.2.1.1
theorem PS.store {P:Program} {w:World} {b base off:Nat} {r:List PV} {cells:List Value} {Ns:List (List Nat)} {p q:PV} {u:Value} (h:PS w b base r cells Ns) (hr:r[off]? = some p) (hp:p.flat=true) (hq:∀w,xak w [q] [u] []) :
 ∃w',(storeCells ⟨b,base+off,none⟩ [u] 0).run P w=.ok () w'∧PS w' b base (r.set off q) (cells.set off u) Ns∧xnW b base r.length Ns.flatten w w':=by
 obtain ⟨cur,t,hh⟩:=h.wb
 have hlc:=h.rep.len
 have hoff:off<r.length:=by
  rcases Nat.lt_or_ge off r.length with h' | h'
  ·exact h'
  ·simp [List.getElem?_eq_none h'] at hr
 have hcell:∀j v,cells[j]? = some v→cur[base+j]? = some v:=fun j v hv=>by rw [←cell_of_row w b (base+j) cur t (0,0) hh];exact h.at_ j v hv
 have hlt:base+off<cur.size:=by
  have:=hcell off cells[off] (List.getElem?_eq_getElem (by omega))
  rcases Nat.lt_or_ge (base+off) cur.size with h' | h'
  ·exact h'
  ·rw [Array.getElem?_eq_none h'] at this;cases this
 have hone:∀x∈[u],x.oneCell'=true:=(hq w).one
 have hrun:=run_storeCells_at P b (base+off) t [u] 0 cur w hh (by simp;omega) hone
 rw [Nat.add_zero] at hrun
 have hset:cur.toList.take (base+off)++[u]++cur.toList.drop (base+off+[u].length)=cur.toList.set (base+off) u:=by
  rw [List.set_eq_take_append_cons_drop,if_pos (by simpa using hlt)];simp
 rw [hset] at hrun
 have hnew:=setRow_heap w b cur (cur.toList.set (base+off) u).toArray t (0,0) hh
 have hold:∀x,x≠b→(w.setRow b (cur.toList.set (base+off) u).toArray).heap[x]? = w.heap[x]? := fun x hx=>setRow_other w b x _ hx
 have hrd:∀j,(w.setRow b (cur.toList.set (base+off) u).toArray).cell? ⟨b,j,none⟩=if base+off=j then some u else w.cell? ⟨b,j,none⟩:=by
  intro j
  rw [cell_of_row _ b j _ t (0,0) hnew,cell_of_row w b j cur t (0,0) hh]
  simp only [List.getElem?_toArray,List.getElem?_set,Array.length_toList,Array.getElem?_toList]
  split
  ·rfl
  ·rfl
 have hsize:w.heap.size≤(w.setRow b (cur.toList.set (base+off) u).toArray).heap.size:=by rw [size_setRow];exact Nat.le_refl _
 refine ⟨_,hrun,⟨fun j v hv=>?_,?_,h.nd,fun x hx=>?_,⟨_,_,hnew⟩,h.nb⟩,⟨⟨rfl,rfl,rfl,hsize,fun x hx hn=>hold x fun e=>hn (by rw [e];exact List.mem_cons_self ..),fun x hx c t' hc=>?_⟩,fun j hj=>?_⟩⟩
 ·rw [hrd]
  rw [List.getElem?_set] at hv
  by_cases e:off=j
  ·subst e
   rw [if_pos rfl,if_pos (by omega)] at hv
   rw [if_pos rfl];exact hv
  ·rw [if_neg e] at hv
   rw [if_neg (by omega)];exact h.at_ j v hv
 ·obtain ⟨v0,N0,e1,e2,h0⟩:=h.rep.at_ hr
  have hN0:N0=[]:=xak.flat_nil (fun x hx=>by simp at hx;rw [hx];exact hp) h0
  subst hN0
  obtain ⟨er,lr⟩:=xdM hr
  obtain ⟨ec,lc⟩:=xdM e1
  obtain ⟨eN,lN⟩:=xdM e2
  have hrep:=h.rep
  rw [er] at hrep
  obtain ⟨c1,cx,N1,Nx,f1,f2,l1,l2,k1,kx⟩:=xaB.split _ hrep
  obtain ⟨cm,c2,Nm,N2,f3,f4,l3,l4,km,k2⟩:=xaB.split _ kx
  subst f3;subst f4
  have hc1:c1=cells.take off:=by rw [f1,←lr,←l1,List.take_left]
  have hc2:c2=cells.drop (off+1):=by
   rw [f1]
   have:off+1=(c1++cm).length:=by rw [List.length_append,l1,l3,lr];rfl
   rw [this,←List.append_assoc,List.drop_left]
  have hn1:N1=Ns.take off:=by rw [f2,←lr,←l2,List.take_left]
  have hn2:N2=Ns.drop (off+1):=by
   rw [f2]
   have:off+1=(N1++Nm).length:=by rw [List.length_append,l2,l4,lr];rfl
   rw [this,←List.append_assoc,List.drop_left]
  rw [xfK q hr,xfK u e1]
  have hb:∀x∈Ns.flatten,x≠b:=fun x hx e=>h.nb (e▸hx)
  have hfin:=(k1.append ((xaB.one' (hq w)).append k2))
  rw [hc1,hc2,hn1,hn2,←eN] at hfin
  exact hfin.stable fun x hx=>hold x (hb x hx)
 ·exact (h.wr x hx).stay (hold x fun e=>h.nb (e▸hx))
 ·by_cases e:x=b
  ·subst e
   rw [hh] at hc
   injection hc with hc
   injection hc with hc1 hc2 _
   subst hc1;subst hc2
   exact ⟨_,hnew,by simp⟩
  ·exact ⟨c,(hold x e).trans hc,rfl⟩
 ·rw [hrd,if_neg (by omega)]
end Go.Ev
/- Functions that write a count: a region's operations. -/
namespace Go.Ev
open Go.RowKit
structure xa9 (nt:Nat) (E:En) (rg:List (Nat×SV)) (a:Act):Prop where
 size:a.tmps.size=nt
 defers:a.defers=[]
 at_:∀t sv,lk rg t=some sv→a.tmps[t]? = some (E.val sv)
theorem xa9.eval {nt:Nat} {E:En} {rg:List (Nat×SV)} {a:Act} (h:xa9 nt E rg a) {x:Operand} {sv:SV} (e:svO rg x=some sv):a.eval x=E.val sv:=by
 cases x with
 | tmp t =>
  have:=h.at_ t sv e
  simp [Act.eval,Array.getD_eq_getD_getElem?,this]
 | const v =>
  unfold svO at e
  split at e
  ·rename_i h';cases h'
  ·rename_i z h'
   injection h' with h'
   subst h'
   split at e
   ·rename_i hz;injection e with e;subst e;subst hz;rfl
   ·cases e
  ·cases e
 | global g=>simp [svO] at e
 | func f=>simp [svO] at e
theorem xa9.put {nt:Nat} {E:En} {rg:List (Nat×SV)} {a:Act} (h:xa9 nt E rg a) {d:Option Tmp} (hd:xo7 nt d=true) (sv:SV):xa9 nt E (xnX rg d sv) (a.put d (E.val sv)):=by
 cases d with
 | none=>exact h
 | some d =>
  have hd':d<nt:=by simpa [xo7] using hd
  refine ⟨by simp [Act.put,h.size],h.defers,fun t v e=>?_⟩
  simp only [xnX,xas] at e
  split at e
  ·rename_i e';subst e';injection e with e;subst e
   simp [Act.put,h.size,hd']
  ·rename_i hne
   simpa [Act.put,Array.getElem?_setIfInBounds_ne hne] using h.at_ t v e
theorem xa9.none_put {nt:Nat} {E:En} {rg:List (Nat×SV)} {a:Act} (h:xa9 nt E rg a) {d:Option Tmp} (hd:d=none) (v:Value):xa9 nt E rg (a.put d v):=by subst hd;exact h
theorem xdI {α:Type}:∀{l:List (Nat×α)} {i:Nat} {x:α},lk l i=some x→(i,x)∈l
 | [],i,x,h=>by cases h
 | (j,y)::l,i,x,h=>by
  rw [xas] at h
  split at h
  ·rename_i e;subst e;injection h with h;subst h;exact List.mem_cons_self ..
  ·exact List.mem_cons_of_mem _ (xdI h)
theorem xa9.turn {nt:Nat} {E E':En} {rg:List (Nat×SV)} {a:Act} (h:xa9 nt E rg a) (he:∀t sv,lk rg t=some sv→E'.val sv=E.val sv):xa9 nt E' rg a :=
 ⟨h.size,h.defers,fun t sv e=>by rw [he t sv e];exact h.at_ t sv e⟩
def IxP (T:Tab) (st:TypeId) (E:En):Prop:=T.esz st≠0→∃o0 cap,E.arr=.slice (some ⟨E.b,o0,none⟩) E.n cap∧E.i<E.n∧E.base=o0+E.i*T.esz st
def IxL (T:Tab) (st:TypeId) (E:En):Prop:=T.esz st≠0→∃ad cap,E.arr=.slice ad E.n cap
section
variable {P : Program} {T : Tab} {st : TypeId} {tx : FuncId} {nt esz : Nat} {o : Oper} {a : Act} {w : World} {E : En} {rg : List (Nat × SV)}
theorem xjK (hT:xaz P T) {sv:SV} (h:mop T st tx esz rg o=some (.pur sv)) (hR:xa9 nt E rg a) (hl:(∃off n,sv=.ld off n)→E.cells.length=esz∧∀j u,E.cells[j]? = some u→w.cell? ⟨E.b,E.base+j,none⟩=some u)
 (hx:sv=.ptr 0→IxP T st E) (hL:IxL T st E):(execOp a.eval o).run P w=.ok (.value (E.val sv)) w:=by
 unfold mop at h
 split at h
 ·rename_i x hop
  cases hs:svO rg x with
  | none=>rw [hs] at h;cases h
  | some v =>
   rw [hs] at h;injection h with h;injection h with h;subst h
   simp [execOp,hop,hR.eval hs]
 ·rename_i x hop
  cases hs:svO rg x with
  | none=>rw [hs] at h;cases h
  | some v =>
   rw [hs] at h;injection h with h;injection h with h;subst h
   simp [execOp,hop,hR.eval hs]
 ·rename_i op t x y t' hop
  split at h
  ·split at h
   ·rename_i hy
    have hy':a.eval y=.int .i64 1:=by
     unfold xtn at hy
     split at hy
     ·rename_i z;have:z=1:=by simpa using hy
      subst this;rfl
     ·cases hy
    split at h
    ·rename_i hs
     injection h with h;injection h with h;subst h
     have:=hR.eval hs
     simp [execOp,hop,this,hy',En.val,xca,binOp,Op.intArith]
    ·rename_i hs
     injection h with h;injection h with h;subst h
     have:=hR.eval hs
     simp [execOp,hop,this,hy',En.val,xca,binOp,Op.intArith]
    ·cases h
   ·cases h
  ·split at h
   ·rename_i hs1 hs2
    injection h with h;injection h with h;subst h
    have h1:=hR.eval hs1
    have h2:=hR.eval hs2
    simp [execOp,hop,h1,h2,En.val,xca,binOp,Op.intCmp]
   ·cases h
  ·split at h
   ·rename_i hc
    obtain ⟨hy,hs⟩:=hc
    have hy':a.eval y=.int .i64 3:=by
     unfold xoQ at hy
     split at hy
     ·rename_i z;have:z=3:=by simpa using hy
      subst this;rfl
     ·cases hy
    injection h with h;injection h with h;subst h
    have:=hR.eval hs
    simp [execOp,hop,this,hy',En.val,xca,binOp,Op.intDiv]
   ·cases h
  ·split at h
   ·rename_i hc
    obtain ⟨hs2,hs1⟩:=hc
    injection h with h;injection h with h;subst h
    have h1:=hR.eval hs1
    have h2:=hR.eval hs2
    simp [execOp,hop,h1,h2,En.val,xca,binOp,Op.intCmp]
   ·cases h
  ·cases h
 ·rename_i c hop
  split at h
  ·rename_i x hc ha
   split at h
   ·rename_i t hs ht
    split at h
    ·rename_i hcond
     obtain ⟨e1,e2⟩:=hcond
     injection h with h;injection h with h;subst h
     obtain ⟨cal,args,ats⟩:=c
     simp only at hc ha ht
     have e3:args=#[x]:=Array.ext' (by simpa using ha)
     have e4:ats=#[t]:=Array.ext' (by simpa using ht)
     subst hc;subst e3;subst e4;subst e1
     obtain ⟨ad,cap,h1⟩:=hL e2
     obtain ⟨i,j,q1,q2,q3,q4⟩:=hT.esz (Nat.pos_of_ne_zero e2)
     have h2:=hR.eval hs
     simp [execOp,hop,resolve,invoke,builtin,Builtin.len_,run_underlying q4,h2,En.val,h1,goInt]
    ·cases h
   ·cases h
  ·split at h<;>cases h
  ·split at h<;>cases h
  ·cases h
 ·rename_i t x y hop
  split at h
  ·rename_i hc
   obtain ⟨e1,e2,e3,e4⟩:=hc
   injection h with h;injection h with h;subst h;subst e1
   obtain ⟨o0,cap,h1,h2,h3⟩:=hx rfl e2
   obtain ⟨i,j,q1,q2,q3,q4⟩:=hT.esz (Nat.pos_of_ne_zero e2)
   have k1:=hR.eval e3
   have k2:=hR.eval e4
   have hlt:(E.i:Int)<(E.n:Int):=by omega
   simp [execOp,hop,Instr.indexAt,k1,k2,En.val,h1,asIntOf,run_underlying q4,hlt,xa3 (hT.ty _ _ q2),q3,xeL,h3]
   intro hle;omega
  ·cases h
 ·rename_i s x i hop
  split at h
  ·rename_i off ti hs hti
   split at h
   ·rename_i f hf
    split at h
    ·rename_i hc
     injection h with h;injection h with h;subst h
     obtain ⟨fs,fd,h3,h4,h5,h6⟩:=xj2 (hT.ty s ti hti) hc.1 hf
     obtain ⟨fi,hfi⟩:=xg3 hc.2
     have h7:=xe9 (hT.ty _ _ hfi) E.b (E.base+off) fd h6 w
     have k1:=hR.eval hs
     simp [execOp,hop,Instr.fieldAt,run_underlying h3,h4,k1,En.val,Instr.sureAddr,h7,h5]
     omega
    ·cases h
   ·cases h
  ·cases h
 ·rename_i t x hop
  split at h
  ·rename_i off i hs hi
   split at h
   ·rename_i hle
    injection h with h;injection h with h;subst h
    obtain ⟨hcl,hcell⟩:=hl ⟨_,_,rfl⟩
    have k1:=hR.eval hs
    have hty:=hT.ty t i hi
    cases hg:i.agg with
    | true =>
     have:=xb8 hty hg w E.b (E.base+off) ((E.cells.drop off).take i.size) (by rw [List.length_take,List.length_drop];omega) (fun j u hu=>by
      rw [List.getElem?_take] at hu
      split at hu
      ·rw [List.getElem?_drop] at hu
       rw [Nat.add_assoc];exact hcell _ _ hu
      ·cases hu)
     simp only [execOp,hop,Instr.loadAt,k1,En.val,Instr.sureAddr]
     rw [Sem.run_bind,Sem.run_bind,Sem.run_pure,Result.andThen_ok,this]
     rfl
    | false =>
     have hsz:=hty.size
     have hlt:off<E.cells.length:=by omega
     have:=xb7 hty hg w E.b (E.base+off) E.cells[off] (hcell _ _ (List.getElem?_eq_getElem hlt))
     simp only [execOp,hop,Instr.loadAt,k1,En.val,Instr.sureAddr]
     rw [Sem.run_bind,Sem.run_bind,Sem.run_pure,Result.andThen_ok,this]
     simp [En.val,List.getD_eq_getElem?_getD,hlt]
   ·cases h
  ·cases h
 ·split at h
  ·split at h
   ·split at h
    ·cases h
    ·cases h
    ·cases h
    ·cases h
   ·cases h
  ·cases h
 ·cases h
def xq8 (P:Program) (Q:Exit→Act→World→Prop):List Oper→(Act→World→Prop)→Act→World→Prop
 | [],K,a,w=>K a w
 | o::l,K,a,w=>o.wp P a w (xq8 P Q l K) Q
theorem xg5 {ops:Array Oper} {Q:Exit→Act→World→Prop}:∀(l:List Oper) (i:Nat) (a:Act) (w:World),(∀j,l[j]? = ops[i+j]?)→(∀o∈l,o.guard=none)→xq8 P Q l (fun a w=>Q .normal a w) a w→wpOps P ops Q ((List.range l.length).map (i+·)) a w
 | [],i,a,w,_,_,h=>h
 | o::l,i,a,w,hl,hg,h=>by
  have h0:ops[i]? = some o:=by simpa using (hl 0).symm
  have hl':∀j,l[j]? = ops[i+1+j]? := fun j=>by
   have:=hl (j+1)
   rw [show i+1+j=i+(j+1) by omega]
   simpa using this
  have hrange:(List.range (o::l).length).map (i+·)=i::(List.range l.length).map (i+1+·):=by
   rw [List.length_cons,List.range_succ_eq_map,List.map_cons,List.map_map]
   simp only [Nat.add_zero,List.cons.injEq,true_and]
   apply List.map_congr_left
   intro j _
   simp only [Function.comp]
   omega
  rw [hrange]
  unfold wpOps
  rw [h0]
  have hw:Region.wanted o (yielded ops a.tmps)=true:=by simp [Region.wanted,hg o (by simp)]
  simp only [hw,if_true]
  refine .inl ?_
  exact Oper.wp_mono (fun a' w' h'=>xg5 l (i+1) a' w' hl' (fun o ho=>hg o (by simp [ho])) h') h
theorem xi7:∀{ops:List Oper} {rg rg':List (Nat×SV)} {e e':Option Eff},mops T st tx nt esz ops rg e=some (rg',e')→∀o∈ops,o.guard=none
 | [],_,_,_,_,_=>by simp
 | o::l,rg,rg',e,e',h=>by
  simp only [mops] at h
  split at h
  ·rename_i hc
   have hg:o.guard=none:=by
    cases hh:o.guard with
    | none=>rfl
    | some _=>rw [hh] at hc;simp at hc
   have hrest:∃rg1 e1,mops T st tx nt esz l rg1 e1=some (rg',e'):=by
    split at h
    ·split at h
     ·split at h
      ·exact ⟨_,_,h⟩
      ·cases h
     ·exact ⟨_,_,h⟩
    ·split at h
     ·exact ⟨_,_,h⟩
     ·cases h
    ·split at h
     ·exact ⟨_,_,h⟩
     ·cases h
    ·split at h
     ·exact ⟨_,_,h⟩
     ·cases h
    ·cases h
   obtain ⟨rg1,e1,h1⟩:=hrest
   intro q hq
   rcases List.mem_cons.1 hq with rfl | hq
   ·exact hg
   ·exact xi7 h1 q hq
  ·cases h
end
end Go.Ev
/- Functions that write a count: a region as a whole. -/
namespace Go.Ev
open Go.RowKit
section
variable {P : Program} {T : Tab} {st : TypeId} {tx : FuncId} {nt esz : Nat} {ρ : List (Nat × MM)} {mt : Int → ByteArray}
def xtr (ρ:List (Nat×MM)) (mt:Int→ByteArray) (e e':Option Eff) (k kr:Int) (r r':List PV) (kr':Int):Prop:=match e with
 | none=>match e' with
  | none=>r'=r∧kr'=kr
  | some ef=>xj4 ρ mt k ef r=some (r',kr')
 | some _=>r'=r∧kr'=kr
theorem xm4 {α:Type} {l:List α} {i:Nat} {x:α} (h:l[i]? = some x):l.drop i=[x]++l.drop (i+1):=by
 obtain ⟨e,hl⟩:=xdM h
 have h2:l.drop i=(l.take i++([x]++l.drop (i+1))).drop i:=congrArg (List.drop i) e
 rw [h2]
 have h3:(l.take i++([x]++l.drop (i+1))).drop (l.take i).length=[x]++l.drop (i+1):=List.drop_left
 rw [hl] at h3
 exact h3
theorem xhL:∀{ops:List Oper} {rg rg':List (Nat×SV)} {e:Eff} {e':Option Eff},mops T st tx nt esz ops rg (some e)=some (rg',e')→e'=some e
 | [],rg,rg',e,e',h=>by simp only [mops] at h;injection h with h;injection h with _ h;exact h.symm
 | o::l,rg,rg',e,e',h=>by
  simp only [mops] at h
  split at h
  ·split at h
   ·split at h
    ·simp at h
    ·exact xhL h
   ·simp at h
   ·simp at h
   ·simp at h
   ·cases h
  ·cases h
theorem xdd (hT:xaz P T) (hρ:xiQ P ρ) (htx:xgR P tx mt) {Q:Exit→Act→World→Prop}:∀(ops:List Oper) (rg:List (Nat×SV)) (e:Option Eff) (E:En) (a:Act) (w:World) (r r':List PV) (Ns:List (List Nat)) (rg':List (Nat×SV)) (e':Option Eff) (kr':Int) (K:Act→World→Prop),
 mops T st tx nt esz ops rg e=some (rg',e')→xa9 nt E rg a→PS w E.b E.base r E.cells Ns→r.length=esz→IxP T st E→IxL T st E→rg64 E.k=true→E.tx=mt E.k→xtr ρ mt e e' E.k E.kr r r' kr' →
 (∀a' w' cells',xa9 nt { E with cells:=cells',kr:=kr' } rg' a'→PS w' E.b E.base r' cells' Ns→xnW E.b E.base esz Ns.flatten w w'→r'.length=esz→((∀off t,e'≠some (.store off t))→cells'=E.cells)→K a' w')→xq8 P Q ops K a w
 | [],rg,e,E,a,w,r,r',Ns,rg',e',kr',K,h,hR,hP,hl,hx,hL,hk,ht,he,hK=>by
  simp only [mops] at h
  injection h with h
  injection h with h1 h2
  subst h1;subst h2
  have:r'=r∧kr'=E.kr:=by cases e<;>exact he
  obtain ⟨e1,e2⟩:=this
  subst e1;subst e2
  exact hK a w E.cells hR hP (.refl _ _ _ _ _) hl fun _=>rfl
 | o::l,rg,e,E,a,w,r,r',Ns,rg',e',kr',K,h,hR,hP,hl,hx,hL,hk,ht,he,hK=>by
  have hcl:=hP.rep.len
  simp only [mops] at h
  split at h
  case isFalse=>cases h
  rename_i hc
  obtain ⟨_,hd⟩:=hc
  show o.wp P a w (xq8 P Q l K) Q
  split at h
  ·rename_i v hm
   have hpure:(execOp a.eval o).run P w=.ok (.value (E.val v)) w:=xjK hT hm hR (fun _=>⟨by omega,hP.at_⟩) (fun _=>hx) hL
   have hnext:mops T st tx nt esz l (xnX rg o.dst v) e=some (rg',e')→o.wp P a w (xq8 P Q l K) Q:=fun h =>
    xbv hpure (xdd hT hρ htx l _ e E _ w r r' Ns rg' e' kr' K h (hR.put hd v) hP hl hx hL hk ht he hK)
   split at h
   ·split at h
    ·exact hnext h
    ·cases h
   ·exact hnext h
  ·rename_i hm
   split at h
   case isFalse=>cases h
   unfold mop at hm
   split at hm
   ·rename_i x _;cases hs:svO rg x<;>rw [hs] at hm<;>cases hm
   ·rename_i x _;cases hs:svO rg x<;>rw [hs] at hm<;>cases hm
   ·split at hm
    ·split at hm
     ·split at hm<;>cases hm
     ·cases hm
    ·split at hm<;>cases hm
    ·split at hm<;>cases hm
    ·split at hm<;>cases hm
    ·cases hm
   ·rename_i c hop
    split at hm
    ·split at hm
     ·split at hm<;>cases hm
     ·cases hm
    ·rename_i f x hcal harg
     split at hm
     ·rename_i hcond
      obtain ⟨e1,e2⟩:=hcond
      rw [e1] at hcal
      have htx0:=htx
      obtain ⟨⟨fn,hf,hn,hb⟩,htxt⟩:=htx
      have hrun:=xb1 (P:=P) (o:=o) (a:=a) (w:=w) (caps:=[]) hop hcal rfl hf hn hb
      have hargs:(c.args.toList.map a.eval++[]).toArray=#[.int .i64 E.k]:=by rw [harg];simp only [List.map_cons,List.map_nil,List.append_nil,hR.eval e2];rfl
      rw [hargs] at hrun
      unfold Oper.wp
      rw [hrun]
      refine (htxt E.k hk w).mono fun en w' ⟨he1,hbel⟩=>?_
      subst he1
      obtain ⟨hP',hE'⟩:=hP.below hbel
      have hput:=hR.put hd .txt
      have hv:E.val .txt=.string (mt E.k):=by show Value.string E.tx=_;rw [ht]
      rw [hv] at hput
      refine xdd hT hρ htx0 l _ e E _ w' r r' Ns rg' e' kr' K h hput hP' hl hx hL hk ht he fun a' w2 cells' k1 k2 k3 k4 k5=>hK a' w2 cells' k1 k2 ((hE' esz).trans k3) k4 k5
     ·cases hm
    ·split at hm<;>cases hm
    ·cases hm
   ·split at hm<;>cases hm
   ·split at hm
    ·split at hm
     ·split at hm<;>cases hm
     ·cases hm
    ·cases hm
   ·split at hm
    ·split at hm<;>cases hm
    ·cases hm
   ·split at hm
    ·split at hm
     ·split at hm<;>cases hm
     ·cases hm
    ·cases hm
   ·cases hm
  ·rename_i off t hm
   split at h
   case isFalse=>cases h
   rename_i hcond
   obtain ⟨c1,c2,c3,c4⟩:=hcond
   have hen:e=none:=by cases e with | none=>rfl | some _=>cases c1
   subst hen
   have he':=xhL h
   subst he'
   unfold mop at hm
   split at hm
   ·rename_i x _;cases hs:svO rg x<;>rw [hs] at hm<;>cases hm
   ·rename_i x _;cases hs:svO rg x<;>rw [hs] at hm<;>cases hm
   ·split at hm
    ·split at hm
     ·split at hm<;>cases hm
     ·cases hm
    ·split at hm<;>cases hm
    ·split at hm<;>cases hm
    ·split at hm<;>cases hm
    ·cases hm
   ·split at hm
    ·split at hm
     ·split at hm<;>cases hm
     ·cases hm
    ·split at hm<;>cases hm
    ·split at hm<;>cases hm
    ·cases hm
   ·split at hm<;>cases hm
   ·split at hm
    ·split at hm
     ·split at hm<;>cases hm
     ·cases hm
    ·cases hm
   ·split at hm
    ·split at hm<;>cases hm
    ·cases hm
   ·rename_i ty x y hop
    split at hm
    ·rename_i off' v i hs1 hs2 hi
     split at hm
     case isFalse=>cases hm
     rename_i hc2
     obtain ⟨g1,g2⟩:=hc2
     have hval:∃(q:PV) (u:Value),a.eval y=u∧(∀w,xak w [q] [u] [])∧off'=off∧q=xr6 mt E.k t:=by
      have hy:=hR.eval hs2
      split at hm
      ·injection hm with hm;injection hm with hm1 hm2;subst hm1;subst hm2
       exact ⟨_,_,hy,fun w=>.int .nil,rfl,rfl⟩
      ·injection hm with hm;injection hm with hm1 hm2;subst hm1;subst hm2
       refine ⟨.str (mt E.k),_,hy,fun w=>?_,rfl,rfl⟩
       show xak w [.str (mt E.k)] [.string E.tx] []
       rw [ht];exact .str .nil
      ·injection hm with hm;injection hm with hm1 hm2;subst hm1;subst hm2
       exact ⟨_,_,hy,fun w=>.bool .nil,rfl,rfl⟩
      ·cases hm
     obtain ⟨q,u,hu,hq,e1,e2⟩:=hval
     subst e1
     have hx':=hR.eval hs1
     simp only [xtr,xj4] at he
     split at he
     ·rename_i p hp
      split at he
      ·rename_i hpf
       injection he with he
       injection he with he1 he2
       obtain ⟨w',hst,hP',hE'⟩:=PS.store (P:=P) hP hp hpf hq
       have hrun:(execOp a.eval o).run P w=.ok .skip w':=by
        have hone:u.cells=#[u]:=by
         have:=(hq w).one u (by simp)
         cases u<;>first | rfl | (simp [Value.oneCell'] at this)
        simp only [execOp,hop,Instr.storeAt,hx',En.val,Instr.sureAddr,storeVar]
        have hsz:¬(a.eval y).cells.size≠i.size:=by rw [hu,hone,g2];simp
        simp only [Sem.run_bind,Sem.run_pure,Result.andThen_ok,xa3 (hT.ty ty i hi),Sem.run_ite,if_neg hsz]
        rw [hu,hone]
        have hst':(storeCells ⟨E.b,E.base+off',none⟩ #[u].toList 0).run P w=.ok () w':=hst
        rw [hst']
        rfl
       refine xf9 hrun ?_
       rw [←e2] at he1
       rw [he1] at hP'
       rw [hl] at hE'
       have hR':xa9 nt { E with cells:=E.cells.set off' u,kr:=kr' } rg (a.put o.dst undef):=by
        rw [c4]
        refine xa9.turn (E:=E) hR fun t' sv hsv=>?_
        have hmem:=xdI hsv
        have n1:=List.all_eq_true.1 c2 _ hmem
        have n2:=List.all_eq_true.1 c3 _ hmem
        cases sv with
        | ld o' n'=>simp [xwr] at n1
        | res=>simp at n2
        | _=>rfl
       exact xdd hT hρ htx l rg (some (.store off' t)) { E with cells:=E.cells.set off' u,kr:=kr' } _ w' r' r' Ns rg' _ kr' K h hR' hP' (by rw [←he1,List.length_set];exact hl) hx hL hk ht ⟨rfl,rfl⟩
        fun a' w2 cells' k1 k2 k3 k4 k5=>hK a' w2 cells' k1 k2 (hE'.trans k3) k4 fun hns=>absurd rfl (hns off' t)
      ·cases he
     ·cases he
    ·cases hm
   ·cases hm
  ·rename_i off n f hm
   split at h
   case isFalse=>cases h
   rename_i hcond
   obtain ⟨c1,c3⟩:=hcond
   have hen:e=none:=by cases e with | none=>rfl | some _=>cases c1
   subst hen
   have he':=xhL h
   subst he'
   unfold mop at hm
   split at hm
   ·rename_i x _;cases hs:svO rg x<;>rw [hs] at hm<;>cases hm
   ·rename_i x _;cases hs:svO rg x<;>rw [hs] at hm<;>cases hm
   ·split at hm
    ·split at hm
     ·split at hm<;>cases hm
     ·cases hm
    ·split at hm<;>cases hm
    ·split at hm<;>cases hm
    ·split at hm<;>cases hm
    ·cases hm
   ·rename_i c hop
    split at hm
    ·split at hm
     ·split at hm<;>cases hm
     ·cases hm
    ·split at hm<;>cases hm
    ·rename_i f' x y hcal harg
     split at hm
     ·rename_i off' n' hs1 hs2
      injection hm with hm
      injection hm with hm1 hm2 hm3
      subst hm1;subst hm2;subst hm3
      have hx1:=hR.eval hs1
      have hy1:=hR.eval hs2
      have hargs:(c.args.toList.map a.eval++[]).toArray=#[E.val (.ld off' n'),.int .i64 E.k]:=by rw [harg];simp only [List.map_cons,List.map_nil,List.append_nil,hx1,hy1];rfl
      have hturn:∀{cells':List Value},cells'=E.cells→xa9 nt { E with cells:=cells',kr:=kr' } rg a:=fun {cells'} hc=>by
       subst hc
       refine xa9.turn (E:=E) hR fun t' sv hsv=>?_
       have n2:=List.all_eq_true.1 c3 _ (xdI hsv)
       cases sv with
       | res=>simp at n2
       | ld o' n''=>cases n''<;>rfl
       | _=>rfl
      cases n' with
      | none =>
       simp only [xtr,xj4] at he
       split at he
       ·rename_i p m hp hρf
        split at he
        ·rename_i p' k' hm'
         split at he
         ·rename_i hrg
          injection he with he
          injection he with he1 he2
          subst he1;subst he2
          obtain ⟨⟨fn,hf,hn,hb⟩,hlike,hcall⟩:=xnu hρ hρf p E.k p' k' hm' hk
          have hrun:=xb1 (P:=P) (o:=o) (a:=a) (w:=w) (caps:=[]) hop hcal rfl hf hn hb
          rw [hargs] at hrun
          obtain ⟨u,N,e1,e2,hu⟩:=hP.rep.at_ hp
          have huv:E.val (.ld off' none)=u:=by simp [En.val,List.getD_eq_getElem?_getD,e1]
          rw [huv] at hrun
          have hNsub:=xo1 e2
          unfold Oper.wp
          rw [hrun]
          refine (hcall w u N hu (xjJ hP.nd e2) (fun b hb=>hP.wr b (hNsub b hb))).mono fun en w' ⟨he1,hM,hrep⟩=>?_
          subst he1
          obtain ⟨er,lr⟩:=xdM hp
          have hP0:=hP
          rw [er] at hP0
          have hcm:[u]=(E.cells.drop (r.take off').length).take [p].length:=by
           rw [lr]
           rw [xm4 e1];simp
          have hNm:[N]=(Ns.drop (r.take off').length).take [p].length:=by
           rw [lr]
           rw [xm4 e2];simp
          obtain ⟨hP',hE'⟩:=hP0.part (rm':=[p']) hcm hNm (by simpa using hM) (xaB.one' hrep)
          rw [←xfK p' hp] at hP'
          have hput:=(hturn (cells':=E.cells) rfl).put hd .res
          exact xdd hT hρ htx l _ (some (.call off' none f')) { E with cells:=E.cells,kr:=k' } _ w' (r.set off' p') (r.set off' p') Ns rg' _ k' K h hput hP' (by rw [List.length_set];exact hl) hx hL hk ht ⟨rfl,rfl⟩
           fun a' w2 cells' q1 q2 q3 q4 q5=>hK a' w2 cells' q1 q2 ((hE' esz).trans q3) q4 q5
         ·cases he
        ·cases he
       ·cases he
      | some m =>
       simp only [xtr,xj4] at he
       split at he
       ·rename_i g hρf
        split at he
        ·rename_i hle
         split at he
         ·rename_i q k' hm'
          split at he
          ·rename_i hrg
           injection he with he
           injection he with he1 he2
           subst he1;subst he2
           obtain ⟨⟨fn,hf,hn,hb⟩,hlike,hcall⟩:=xnu hρ hρf _ E.k q k' hm' hk
           have hrun:=xb1 (P:=P) (o:=o) (a:=a) (w:=w) (caps:=[]) hop hcal rfl hf hn hb
           rw [hargs] at hrun
           have er:r=r.take off'++((r.drop off').take m++r.drop (off'+m)):=by
            rw [←List.drop_drop,List.take_append_drop,List.take_append_drop]
           have lr:(r.take off').length=off':=by rw [List.length_take];omega
           have lm:((r.drop off').take m).length=m:=by rw [List.length_take,List.length_drop];omega
           have hP0:=hP
           rw [er] at hP0
           have hmid:=hP0.rep.mid
           rw [lr,lm] at hmid
           have huv:E.val (.ld off' (some m))=.agg ((E.cells.drop off').take m).toArray:=rfl
           rw [huv] at hrun
           unfold Oper.wp
           rw [hrun]
           refine (hcall w _ _ hmid (xoy off' m hP.nd) (fun b hb=>hP.wr b (xqs off' m b hb))).mono fun en w' ⟨he1,hM,hrep⟩=>?_
           subst he1
           obtain ⟨hP',hE'⟩:=hP0.part (rm':=q) (cm:=(E.cells.drop off').take m) (Nm:=(Ns.drop off').take m) (by rw [lr,lm]) (by rw [lr,lm]) hM hrep
           have hput:=(hturn (cells':=E.cells) rfl).put hd .res
           have hlq:=hlike.len
           rw [←List.append_assoc] at hP'
           exact xdd hT hρ htx l _ (some (.call off' (some m) f')) { E with cells:=E.cells,kr:=k' } _ w' _ _ Ns rg' _ k' K h hput hP' (by simp only [List.length_append,hlq,lm,lr,List.length_drop];omega) hx hL hk ht ⟨rfl,rfl⟩
            fun a' w2 cells' q1 q2 q3 q4 q5=>hK a' w2 cells' q1 q2 ((hE' esz).trans q3) q4 q5
          ·cases he
         ·cases he
        ·cases he
       ·cases he
     ·cases hm
    ·cases hm
   ·split at hm<;>cases hm
   ·split at hm
    ·split at hm
     ·split at hm<;>cases hm
     ·cases hm
    ·cases hm
   ·split at hm
    ·split at hm<;>cases hm
    ·cases hm
   ·split at hm
    ·split at hm
     ·split at hm<;>cases hm
     ·cases hm
    ·cases hm
   ·cases hm
  ·cases h
end
end Go.Ev
/- Functions that write a count: bodies, loops, whole functions. -/
namespace Go.Ev
open Go.RowKit
def seqs:Code→List Code
 | .seq a b=>seqs a++seqs b
 | c=>[c]
def wpL (P:Program):List Code→(Exit→Act→World→Prop)→Act→World→Prop
 | [],Q,a,w=>Q .normal a w
 | c::cs,Q,a,w=>c.wp P (Exit.then (wpL P cs Q) Q) a w
theorem xhm {K K':Act→World→Prop} {Q Q':Exit→Act→World→Prop} (hk:∀a w,K a w→K' a w) (hq:∀e a w,e≠.normal→Q e a w→Q' e a w):∀e a w,Exit.then K Q e a w→Exit.then K' Q' e a w:=by
 intro e a w h
 cases e with
 | normal=>exact hk a w h
 | _=>exact hq _ a w (by simp) h
theorem xiR {P:Program} {Q:Exit→Act→World→Prop}:∀{x y:List Code} {a:Act} {w:World},wpL P (x++y) Q a w→wpL P x (Exit.then (wpL P y Q) Q) a w
 | [],y,a,w,h=>h
 | c::x,y,a,w,h=>by
  refine Code.wp_mono (xhm (fun a w h=>xiR h) fun e a w hn h=>?_) h
  cases e with
  | normal=>exact absurd rfl hn
  | _=>exact h
theorem xhj {P:Program}:∀{c:Code} {Q:Exit→Act→World→Prop} {a:Act} {w:World},wpL P (seqs c) Q a w→c.wp P Q a w:=by
 intro c
 induction c with
 | seq x y ihx ihy =>
  intro Q a w h
  refine wp_seq (ihx ?_)
  have h2:=xiR (x:=seqs x) (y:=seqs y) h
  revert h2
  generalize seqs x=l
  intro h2
  have key:∀(l:List Code) (a:Act) (w:World),wpL P l (Exit.then (wpL P (seqs y) Q) Q) a w→wpL P l (Exit.then (y.wp P Q) Q) a w:=by
   intro l
   induction l with
   | nil=>intro a w h;exact ihy h
   | cons c l ih =>
    intro a w h
    refine Code.wp_mono (xhm (fun a w h=>ih a w h) fun e a w hn h=>?_) h
    cases e with
    | normal=>exact absurd rfl hn
    | _=>exact h
  exact key l a w h2
 | _ =>
  intro Q a w h
  refine Code.wp_mono (fun e a w h=>?_) h
  cases e<;>exact h
def stay:SV→Bool | .arr=>true | .idx=>true | .ptr _=>true | _=>false
def xlY:Option Eff→Bool | some (.store _ _)=>true | _=>false
def dreg (T:Tab) (st:TypeId) (tx:FuncId) (nt esz:Nat) (R0:List (Nat×SV)):Code→Option (Option Eff×SV)
 | .region _ ops false=>match mops T st tx nt esz ops.toList ((1,.kk)::R0) none with
  | some (rg,e)=>match lk rg 1 with
   | some sv=>if (R0.all fun x=>decide (lk rg x.1=some x.2)&&stay x.2)=true then some (e,sv) else none
   | none=>none
  | none=>none
 | _=>none
def xp5 (ρ:List (Nat×MM)) (mt:Int→ByteArray) (s:Option Eff×SV) (r:List PV) (k:Int):Option (List PV×Int) :=
 match s.1 with
 | none=>match s.2 with
  | .kk=>some (r,k)
  | .kinc=>some (r,IntKind.i64.wrap (k+1))
  | _=>none
 | some ef=>match xj4 ρ mt k ef r with
  | some (r',k')=>match s.2 with
   | .kk=>some (r',k)
   | .res=>some (r',k')
   | _=>none
  | none=>none
def xcw (ρ:List (Nat×MM)) (mt:Int→ByteArray):List (Option Eff×SV)→List PV→Int→Option (List PV×Int)
 | [],r,k=>some (r,k)
 | s::ss,r,k=>match xp5 ρ mt s r k with
  | some (r',k')=>xcw ρ mt ss r' k'
  | none=>none
theorem xhC (n:Int):rg64 (IntKind.i64.wrap n)=true:=by
 rw [IntKind.wrap_i64]
 simp only [rg64,Bool.and_eq_true,decide_eq_true_eq]
 omega
section
variable {P : Program} {T : Tab} {st : TypeId} {tx : FuncId} {nt esz : Nat} {ρ : List (Nat × MM)} {mt : Int → ByteArray}
theorem xl9 {k:Int} {ef:Eff} {r r':List PV} {k':Int} (hk:rg64 k=true) (h:xj4 ρ mt k ef r=some (r',k')):rg64 k'=true:=by
 cases ef with
 | store off t =>
  simp only [xj4] at h
  split at h
  ·split at h
   ·injection h with h;injection h with _ h;subst h;exact hk
   ·cases h
  ·cases h
 | call off n f =>
  cases n with
  | none =>
   simp only [xj4] at h
   split at h
   ·split at h
    ·split at h
     ·rename_i hr;injection h with h;injection h with _ h;subst h;exact hr
     ·cases h
    ·cases h
   ·cases h
  | some n =>
   simp only [xj4] at h
   split at h
   ·split at h
    ·split at h
     ·split at h
      ·rename_i hr;injection h with h;injection h with _ h;subst h;exact hr
      ·cases h
     ·cases h
    ·cases h
   ·cases h
theorem xnG (hT:xaz P T) (hρ:xiQ P ρ) (htx:xgR P tx mt) {Q:Exit→Act→World→Prop} {R0:List (Nat×SV)} {c:Code} {s:Option Eff×SV} {E:En} {a:Act} {w:World} {r r':List PV} {Ns:List (List Nat)} {k':Int}
 (h:dreg T st tx nt esz R0 c=some s) (hs:xp5 ρ mt s r E.k=some (r',k')) (hR:xa9 nt E ((1,.kk)::R0) a) (hP:PS w E.b E.base r E.cells Ns) (hl:r.length=esz) (hx:IxP T st E) (hL:IxL T st E) (hk:rg64 E.k=true) (ht:E.tx=mt E.k)
 (hQ:∀a' w' cells' kr',xa9 nt { E with cells:=cells',kr:=kr',k:=k',tx:=mt k' } ((1,.kk)::R0) a'→PS w' E.b E.base r' cells' Ns→xnW E.b E.base esz Ns.flatten w w'→r'.length=esz→rg64 k'=true→(xlY s.1=false→cells'=E.cells)→Q .normal a' w'):c.wp P Q a w:=by
 unfold dreg at h
 split at h
 case h_2=>cases h
 rename_i id ops
 split at h
 case h_2=>cases h
 rename_i rg e hm
 split at h
 case h_2=>cases h
 rename_i sv h1
 split at h
 case isFalse=>cases h
 rename_i hall
 injection h with h
 subst h
 refine wp_region ?_
 have hgo:=xg5 (P:=P) (ops:=ops) (Q:=Q) ops.toList 0 a w (fun j=>by simp) (xi7 hm)
 have e0:(List.range ops.toList.length).map (0+·)=List.range ops.size:=by
  rw [show (fun x=>0+x)=(fun x:Nat=>x) by funext x;omega,List.map_id']
  simp
 rw [e0] at hgo
 refine hgo ?_
 have heff:∃rr kr,xtr ρ mt none e E.k E.kr r rr kr∧rr=r'∧(sv=.kk∧k'=E.k∨sv=.kinc∧k'=IntKind.i64.wrap (E.k+1)∨sv=.res∧k'=kr)∧rg64 k'=true:=by
  unfold xp5 at hs
  cases e with
  | none =>
   simp only at hs
   split at hs
   ·injection hs with hs;injection hs with e1 e2;subst e1;subst e2
    exact ⟨r,E.kr,⟨rfl,rfl⟩,rfl,.inl ⟨rfl,rfl⟩,hk⟩
   ·injection hs with hs;injection hs with e1 e2;subst e1;subst e2
    exact ⟨r,E.kr,⟨rfl,rfl⟩,rfl,.inr (.inl ⟨rfl,rfl⟩),xhC _⟩
   ·cases hs
  | some ef =>
   simp only at hs
   split at hs
   ·rename_i rr kr hef
    split at hs
    ·injection hs with hs;injection hs with e1 e2;subst e1;subst e2
     exact ⟨rr,kr,hef,rfl,.inl ⟨rfl,rfl⟩,hk⟩
    ·injection hs with hs;injection hs with e1 e2;subst e1;subst e2
     exact ⟨rr,kr,hef,rfl,.inr (.inr ⟨rfl,rfl⟩),xl9 hk hef⟩
    ·cases hs
   ·cases hs
 obtain ⟨rr,kr,he,e1,hsv,hk'⟩:=heff
 subst e1
 refine xdd hT hρ htx ops.toList _ none E a w r rr Ns rg e kr _ hm hR hP hl hx hL hk ht he fun a' w' cells' q1 q2 q3 q4 q5=>?_
 refine hQ a' w' cells' kr ⟨q1.size,q1.defers,fun t v hv=>?_⟩ q2 q3 q4 hk' (fun hns=>q5 fun off t e2=>by subst e2;cases hns)
 rw [xas] at hv
 split at hv
 ·rename_i e2
  subst e2
  injection hv with hv
  subst hv
  have:=q1.at_ 1 sv h1
  rw [this]
  rcases hsv with ⟨e3,e4⟩ | ⟨e3,e4⟩ | ⟨e3,e4⟩<;>subst e3<;>subst e4<;>rfl
 ·have hmem:=xdI hv
  have:=List.all_eq_true.1 hall _ hmem
  simp only [Bool.and_eq_true,decide_eq_true_eq] at this
  obtain ⟨h3,h4⟩:=this
  rw [q1.at_ t v h3]
  cases v<;>first | rfl | (simp [stay] at h4)
def dregs (T:Tab) (st:TypeId) (tx:FuncId) (nt esz:Nat) (R0:List (Nat×SV)):List Code→Option (List (Option Eff×SV))
 | []=>some []
 | c::cs=>match dreg T st tx nt esz R0 c,dregs T st tx nt esz R0 cs with
  | some s,some ss=>some (s::ss)
  | _,_=>none
theorem xfy (hT:xaz P T) (hρ:xiQ P ρ) (htx:xgR P tx mt) {Q:Exit→Act→World→Prop} {R0:List (Nat×SV)}:∀{cs:List Code} {ss:List (Option Eff×SV)} {E:En} {a:Act} {w:World} {r r':List PV} {Ns:List (List Nat)} {k':Int},
 dregs T st tx nt esz R0 cs=some ss→xcw ρ mt ss r E.k=some (r',k')→xa9 nt E ((1,.kk)::R0) a→PS w E.b E.base r E.cells Ns→r.length=esz→IxP T st E→IxL T st E→rg64 E.k=true→E.tx=mt E.k →
 (∀a' w' cells' kr',xa9 nt { E with cells:=cells',kr:=kr',k:=k',tx:=mt k' } ((1,.kk)::R0) a'→PS w' E.b E.base r' cells' Ns→xnW E.b E.base esz Ns.flatten w w'→r'.length=esz→rg64 k'=true→((ss.all fun s=>!xlY s.1)=true→cells'=E.cells)→Q .normal a' w')→wpL P cs Q a w
 | [],ss,E,a,w,r,r',Ns,k',h,hs,hR,hP,hl,hx,hL,hk,ht,hQ=>by
  simp only [dregs] at h;injection h with h;subst h
  simp only [xcw] at hs;injection hs with hs;injection hs with e1 e2;subst e1;subst e2
  exact hQ a w E.cells E.kr (hR.turn fun t sv e=>by cases sv with | ld o n=>cases n<;>rfl | txt=>show Value.string (mt E.k)=.string E.tx;rw [ht] | _=>rfl) hP (.refl _ _ _ _ _) hl hk fun _=>rfl
 | c::cs,ss,E,a,w,r,r',Ns,k',h,hs,hR,hP,hl,hx,hL,hk,ht,hQ=>by
  simp only [dregs] at h
  split at h
  ·rename_i s ss' h1 h2
   injection h with h
   subst h
   simp only [xcw] at hs
   split at hs
   ·rename_i r1 k1 hs1
    refine xnG hT hρ htx h1 hs1 hR hP hl hx hL hk ht fun a1 w1 c1 kr1 q1 q2 q3 q4 q5 q6=>?_
    exact xfy hT hρ htx (E:={ E with cells:=c1,kr:=kr1,k:=k1,tx:=mt k1 }) h2 hs q1 q2 q4 hx hL q5 rfl fun a2 w2 c2 kr2 p1 p2 p3 p4 p5 p6=>hQ a2 w2 c2 kr2 p1 p2 (q3.trans p3) p4 p5 fun hns=>by
     rw [List.all_cons,Bool.and_eq_true,Bool.not_eq_true'] at hns
     exact (p6 hns.2).trans (q6 hns.1)
   ·cases hs
  ·cases h
end
end Go.Ev
/- Functions that write a count: slices. -/
namespace Go.Ev
open Go.RowKit
theorem xaB.of_vals {w:World}:∀{ps:List PV} {vs:List Value} {N:List Nat},xak w ps vs N→∃Ns,Ns.flatten=N∧xaB w ps vs Ns:=by
 intro ps
 induction ps with
 | nil=>intro vs N h;cases h;exact ⟨[],rfl,rfl,rfl⟩
 | cons p ps ih =>
  intro vs N h
  obtain ⟨v,r,N1,N2,rfl,rfl,h1,h2⟩:=h.head
  obtain ⟨Ns,e,h3⟩:=ih h2
  exact ⟨N1::Ns,by rw [List.flatten_cons,e],v,r,N1,Ns,rfl,rfl,h1,h3⟩
theorem xaB.vals {w:World}:∀{ps:List PV} {vs:List Value} {Ns:List (List Nat)},xaB w ps vs Ns→xak w ps vs Ns.flatten
 | [],_,_,⟨e1,e2⟩=>by subst e1;subst e2;exact .nil
 | p::ps,_,_,⟨v,r,N,Nr,e1,e2,h1,h2⟩=>by subst e1;subst e2;rw [List.flatten_cons];exact h1.cons h2.vals
structure WS (w:World) (b off sz:Nat) (rows:List (List PV)) (xs:List Value) (N1:List Nat):Prop where
 at_:∀j u,xs[j]? = some u→w.cell? ⟨b,off+j,none⟩=some u
 rep:xak w rows.flatten xs N1
 ln:∀q∈rows,q.length=sz
 nd:(b::N1).Nodup
 wr:∀x∈b::N1,Wr1 w x
theorem xre {rows:List (List PV)} {sz:Nat} (hl:∀q∈rows,q.length=sz):rows.flatten.length=rows.length*sz:=xcx hl
theorem WS.elem {w:World} {b off sz:Nat} {A B:List (List PV)} {r:List PV} {xs:List Value} {N1:List Nat} (h:WS w b off sz (A++r::B) xs N1) :
 ∃x2 Ns,PS w b (off+A.length*sz) r x2 Ns∧(∀x∈Ns.flatten,x∈N1)∧∀w' r' x2',PS w' b (off+A.length*sz) r' x2' Ns→xnW b (off+A.length*sz) sz Ns.flatten w w'→r'.length=sz→(∃xs',WS w' b off sz (A++r'::B) xs' N1)∧Mod (b::N1) w w':=by
 have hrep:=h.rep
 rw [List.flatten_append,List.flatten_cons] at hrep
 obtain ⟨x1,xr,M1,Mr,e1,e2,k1,kr⟩:=xak.split _ _ hrep
 obtain ⟨x2,x3,M2,M3,e3,e4,k2,k3⟩:=xak.split _ _ kr
 subst e3;subst e4
 obtain ⟨Ns,e5,k2'⟩:=xaB.of_vals k2
 have lA:A.flatten.length=A.length*sz:=xcx fun q hq=>h.ln q (by simp [hq])
 have lr:r.length=sz:=h.ln r (by simp)
 have l1:x1.length=A.length*sz:=by rw [←k1.len,lA]
 have l2:x2.length=sz:=by rw [←k2.len,lr]
 have hnd:=h.nd
 have hwr:=h.wr
 rw [e2] at hnd hwr
 simp only [List.nodup_cons,List.mem_append,not_or,List.nodup_append,List.mem_cons] at hnd hwr
 obtain ⟨⟨b1,b2,b3⟩,n1,⟨n2,n3,n23⟩,n123⟩:=hnd
 have hP:PS w b (off+A.length*sz) r x2 Ns:=by
  refine ⟨fun j u hu=>?_,k2',by rw [e5];exact n2,fun x hx=>hwr x (.inr (.inr (.inl (by rw [e5] at hx;exact hx)))),hwr b (.inl rfl),by rw [e5];exact b2⟩
  have hj:j<x2.length:=by
   rcases Nat.lt_or_ge j x2.length with h' | h'
   ·exact h'
   ·simp [List.getElem?_eq_none h'] at hu
  have:=h.at_ (A.length*sz+j) u (by
   rw [e1,List.getElem?_append_right (by omega),l1,show A.length*sz+j-A.length*sz=j by omega,List.getElem?_append_left hj]
   exact hu)
  rwa [←Nat.add_assoc] at this
 refine ⟨x2,Ns,hP,fun x hx=>by rw [e2];rw [e5] at hx;simp [hx],fun w' r' x2' hP' hE hr'=>?_⟩
 have hsubN:∀x∈b::Ns.flatten,x∈b::N1:=fun x hx=>by
  rcases List.mem_cons.1 hx with rfl | hx
  ·exact List.mem_cons_self ..
  ·rw [e2];rw [e5] at hx;simp [hx]
 have hlt:∀x∈b::N1,x<w.heap.size:=fun x hx=>(h.wr x hx).lt
 have hst1:∀x∈M1,w'.heap[x]? = w.heap[x]? := fun x hx=>hE.m.block x (hlt x (by rw [e2];simp [hx])) (by
  rw [e5]
  intro hm
  rcases List.mem_cons.1 hm with rfl | hm
  ·exact b1 hx
  ·exact n123 x hx x (.inl hm) rfl)
 have hst3:∀x∈M3,w'.heap[x]? = w.heap[x]? := fun x hx=>hE.m.block x (hlt x (by rw [e2];simp [hx])) (by
  rw [e5]
  intro hm
  rcases List.mem_cons.1 hm with rfl | hm
  ·exact b3 hx
  ·exact n23 x hm x hx rfl)
 have l2':x2'.length=sz:=by rw [hP'.rep.len,hr']
 refine ⟨⟨x1++(x2'++x3),⟨fun j u hu=>?_,?_,fun q hq=>?_,h.nd,fun x hx=>?_⟩⟩,hE.m.mono hsubN hlt⟩
 ·by_cases hj1:j<x1.length
  ·rw [List.getElem?_append_left hj1] at hu
   rw [hE.out (off+j) (.inl (by omega))]
   exact h.at_ j u (by rw [e1,List.getElem?_append_left hj1];exact hu)
  ·rw [List.getElem?_append_right (by omega)] at hu
   by_cases hj2:j-x1.length<x2'.length
   ·rw [List.getElem?_append_left hj2] at hu
    have:=hP'.at_ (j-x1.length) u hu
    rwa [show off+A.length*sz+(j-x1.length)=off+j by omega] at this
   ·rw [List.getElem?_append_right (by omega)] at hu
    rw [hE.out (off+j) (.inr (by omega))]
    refine h.at_ j u ?_
    rw [e1,List.getElem?_append_right (by omega),List.getElem?_append_right (by omega),show j-x1.length-x2.length=j-x1.length-x2'.length by omega]
    exact hu
 ·rw [List.flatten_append,List.flatten_cons,e2]
  have h2':=hP'.rep.vals
  rw [e5] at h2'
  exact (k1.stable hst1).append (h2'.append (k3.stable hst3))
 ·rcases List.mem_append.1 hq with hq | hq
  ·exact h.ln q (by simp [hq])
  ·rcases List.mem_cons.1 hq with rfl | hq
   ·exact hr'
   ·exact h.ln q (by simp [hq])
 ·by_cases hm:x∈b::Ns.flatten
  ·obtain ⟨c,t,hc⟩:=h.wr x hx
   obtain ⟨c',h1,_⟩:=hE.m.cells x hm c t hc
   exact ⟨_,_,h1⟩
  ·exact (h.wr x hx).stay (hE.m.block x (hlt x hx) hm)
def pops (T:Tab) (st:TypeId) (tx:FuncId) (nt esz:Nat):List Oper→List (Nat×SV)→Option (List (Nat×SV))
 | [],rg=>some rg
 | o::r,rg=>if o.guard.isNone=true∧xo7 nt o.dst=true then (match mop T st tx esz rg o with
  | some (.pur v)=>(match v with
   | .ld _ _=>none
   | .ptr _=>none
   | _=>pops T st tx nt esz r (xnX rg o.dst v))
  | _=>none) else none
def xlX (rg R:List (Nat×SV)):Bool:=R.all fun x=>decide (lk rg x.1=some x.2)
def R0s:List (Nat×SV):=[(0,.arr),(5,.idx)]
def xc9 (ρ:List (Nat×MM)) (mt:Int→ByteArray) (ss:List (Option Eff×SV)):List (List PV)→Int→Option (List (List PV)×Int)
 | [],k=>some ([],k)
 | r::rs,k=>match xcw ρ mt ss r k with
  | some (r',k')=>match xc9 ρ mt ss rs k' with
   | some (rs',k'')=>some (r'::rs',k'')
   | none=>none
  | none=>none
def mkS (ρ:List (Nat×MM)) (mt:Int→ByteArray) (sz:Nat) (ss:List (Option Eff×SV)) (p:PV) (k:Int):Option (PV×Int):=match p with
 | .list s rows=>if s=sz∧rows.length<1000000000000000000 then (match xc9 ρ mt ss rows k with
  | some (rows',k')=>some (.list s rows',k')
  | none=>none) else none
 | _=>none
def dloop (T:Tab) (st:TypeId) (tx:FuncId) (nt esz b0:Nat) (L:Code):Option (List (Option Eff×SV)) :=
 match seqs L with
 | [.region _ oh false,.cond (.tmp c) .skip (.exit b1),.block _ B,.region _ oi false] =>
  match pops T st tx nt esz oh.toList ((1,.kk)::R0s),pops T st tx nt esz oi.toList ((1,.kk)::R0s) with
  | some rh,some ri=>if b1=b0∧xlX rh ((c,.cnd)::(1,.kk)::R0s)=true∧xlX ri [(1,.kk),(0,.arr),(5,.iinc)]=true then dregs T st tx nt esz R0s (seqs B) else none
  | _,_=>none
 | _=>none
def dslice (T:Tab) (st:TypeId) (tx:FuncId) (fn:Func):Option (List (Option Eff×SV)) :=
 match fn.body,fn.results.toList with
 | some body,[.tmp d]=>match seqs body with
  | [.region _ o1 false,.region _ o2 false,.block b0 (.loop L),.region _ o3 false,.ret] =>
   match pops T st tx fn.ntmps (T.esz st) o1.toList [(1,.kk),(0,.arr)] with
   | some r1=>match pops T st tx fn.ntmps (T.esz st) o2.toList r1,pops T st tx fn.ntmps (T.esz st) o3.toList ((1,.kk)::R0s) with
    | some r2,some r3=>if xlX r2 [(1,.kk),(0,.arr),(5,.zero)]=true∧lk r3 d=some .kk∧Nat.ble 2 fn.ntmps=true∧T.esz st≠0 then dloop T st tx fn.ntmps (T.esz st) b0 L else none
    | _,_=>none
   | none=>none
  | _=>none
 | _,_=>none
section
variable {P : Program} {T : Tab} {st : TypeId} {tx : FuncId} {nt esz : Nat} {ρ : List (Nat × MM)} {mt : Int → ByteArray}
theorem xi2 (hT:xaz P T) {Q:Exit→Act→World→Prop}:∀(ops:List Oper) {rg rg':List (Nat×SV)} {E:En} {a:Act} {w:World} {K:Act→World→Prop},
 pops T st tx nt esz ops rg=some rg'→xa9 nt E rg a→IxL T st E→(∀a',xa9 nt E rg' a'→K a' w)→xq8 P Q ops K a w
 | [],rg,rg',E,a,w,K,h,hR,hL,hK=>by simp only [pops] at h;injection h with h;subst h;exact hK a hR
 | o::l,rg,rg',E,a,w,K,h,hR,hL,hK=>by
  simp only [pops] at h
  split at h
  case isFalse=>cases h
  rename_i hc
  split at h
  case h_2=>cases h
  rename_i v hm
  have hpure:(∀off n,v≠.ld off n)→(∀off,v≠.ptr off)→(execOp a.eval o).run P w=.ok (.value (E.val v)) w:=fun h1 h2=>xjK hT hm hR (fun ⟨off,n,e⟩=>absurd e (h1 off n)) (fun e=>absurd e (h2 0)) hL
  show o.wp P a w (xq8 P Q l K) Q
  split at h
  ·cases h
  ·cases h
  ·rename_i n1 n2
   exact xbv (hpure (fun off n e=>n1 off n e) fun off e=>n2 off e) (xi2 hT l h (hR.put hc.2 v) hL hK)
theorem xgf:∀{ops:List Oper} {rg rg':List (Nat×SV)},pops T st tx nt esz ops rg=some rg'→∀o∈ops,o.guard=none
 | [],_,_,_=>by simp
 | o::l,rg,rg',h=>by
  simp only [pops] at h
  split at h
  case isFalse=>cases h
  rename_i hc
  have hg:o.guard=none:=by
   cases hh:o.guard with
   | none=>rfl
   | some _=>rw [hh] at hc;simp at hc
  split at h
  case h_2=>cases h
  split at h
  ·cases h
  ·cases h
  ·intro q hq
   rcases List.mem_cons.1 hq with rfl | hq
   ·exact hg
   ·exact xgf h q hq
theorem xcv (hT:xaz P T) {Q:Exit→Act→World→Prop} {id:Nat} {ops:Array Oper} {rg rg':List (Nat×SV)} {E:En} {a:Act} {w:World} (h:pops T st tx nt esz ops.toList rg=some rg') (hR:xa9 nt E rg a) (hL:IxL T st E) (hQ:∀a',xa9 nt E rg' a'→Q .normal a' w):(Code.region id ops false).wp P Q a w:=by
 refine wp_region ?_
 have hgo:=xg5 (P:=P) (ops:=ops) (Q:=Q) ops.toList 0 a w (fun j=>by simp) (xgf h)
 have e0:(List.range ops.toList.length).map (0+·)=List.range ops.size:=by
  rw [show (fun x=>0+x)=(fun x:Nat=>x) by funext x;omega,List.map_id']
  simp
 rw [e0] at hgo
 exact hgo (xi2 hT _ h hR hL hQ)
theorem xhb {rg R:List (Nat×SV)} {E:En} {a:Act} (h:xlX rg R=true) (hR:xa9 nt E rg a):xa9 nt E R a :=
 ⟨hR.size,hR.defers,fun t v e=>by
  have:=List.all_eq_true.1 h _ (xdI e)
  exact hR.at_ t v (by simpa using this)⟩
theorem xa9.sub {E:En} {a:Act} {t:Nat} {v:SV} {R:List (Nat×SV)} (h:xa9 nt E ((t,v)::R) a) (hn:∀x∈R,x.1≠t):xa9 nt E R a :=
 ⟨h.size,h.defers,fun u x e=>h.at_ u x (by rw [xas,if_neg fun e'=>hn _ (xdI e) e'.symm];exact e)⟩
end
end Go.Ev
/- Functions that write a count: a slice's function as a whole. -/
namespace Go.Ev
open Go.RowKit
section
variable {P : Program} {T : Tab} {st : TypeId} {tx : FuncId} {nt esz : Nat} {ρ : List (Nat × MM)} {mt : Int → ByteArray}
def HW (v:Value) (n:Nat) (N:List Nat) (sz:Nat) (w:World) (rows:List (List PV)):Prop :=
 rows=[]∨∃b off cap xs N1,v=.slice (some ⟨b,off,none⟩) n cap∧N=b::N1∧WS w b off sz rows xs N1
theorem xnv (hT:xaz P T) (hρ:xiQ P ρ) (htx:xgR P tx mt) {b0:Nat} {L:Code} {ss:List (Option Eff×SV)} (hd:dloop T st tx nt (T.esz st) b0 L=some ss) (v:Value) (n:Nat) (hn:n<1000000000000000000) (N:List Nat) (hv:∃ad cap,v=.slice ad n cap)
 {Q:Exit→Act→World→Prop}:∀(rest done:List (List PV)) (a:Act) (w:World) (E:En) (rest':List (List PV)) (k':Int),xc9 ρ mt ss rest E.k=some (rest',k')→n=done.length+rest.length→xa9 nt E ((1,.kk)::R0s) a→E.arr=v→E.i=done.length→E.n=n→E.tx=mt E.k→rg64 E.k=true →
 HW v n N (T.esz st) w (done++rest)→(∀a' w' E',xa9 nt E' ((1,.kk)::R0s) a'→E'.k=k'→E'.arr=v→E'.n=n→Mod N w w'→HW v n N (T.esz st) w' (done++rest')→rest'.length=rest.length→((∀q∈rest,q.length=T.esz st)→∀q∈rest',q.length=T.esz st)→Q (.exit b0) a' w') →
 Code.rounds P L Q (rest.length+1) a w:=by
 unfold dloop at hd
 split at hd
 case h_2=>cases hd
 rename_i x oh c b1 x1 B x2 oi hL
 split at hd
 case h_2=>cases hd
 rename_i rh ri h1 h2
 split at hd
 case isFalse=>cases hd
 rename_i hcond
 obtain ⟨e1,k1,k2⟩:=hcond
 subst e1
 intro rest
 induction rest with
 | nil =>
  intro done a w E rest' k' hm hlen hR hEv hEi hEn hEt hk hH hQ
  simp only [xc9] at hm
  injection hm with hm;injection hm with hm1 hm2
  subst hm1
  rw [rounds_succ]
  refine xhj ?_
  rw [hL]
  have hIxL:IxL T st E:=fun _=>by obtain ⟨ad,cap,e⟩:=hv;exact ⟨ad,cap,by rw [hEv,hEn,e]⟩
  refine xcv hT h1 hR hIxL fun a1 hR1=>?_
  have hR2:=xhb k1 hR1
  show (Code.cond (.tmp c) .skip (.exit b1)).wp P _ a1 w
  have hev:a1.eval (.tmp c)=.bool false:=by
   have:=hR2.at_ c .cnd (by rw [xas,if_pos rfl])
   have h3:E.val .cnd=.bool false:=by show Value.bool (decide (E.i<E.n))=_;rw [hEi,hEn,hlen];simp
   rw [h3] at this
   simp [Act.eval,Array.getD_eq_getD_getElem?,this]
  refine wp_cond_false hev (wp_exit ?_)
  show Q (.exit b1) a1 w
  refine hQ a1 w E ⟨hR2.size,hR2.defers,fun t sv e=>?_⟩ hm2 hEv hEn (.refl _ _) hH rfl fun _ q hq=>by cases hq
  have hcc:lk rh t=some sv:=by
   have:=List.all_eq_true.1 k1 (t,sv) (List.mem_cons_of_mem _ (xdI e))
   simpa using this
  exact hR1.at_ t sv hcc
 | cons r rest ih =>
  intro done a w E rest' k' hm hlen hR hEv hEi hEn hEt hk hH hQ
  simp only [xc9] at hm
  split at hm
  case h_2=>cases hm
  rename_i r' kr hm1
  split at hm
  case h_2=>cases hm
  rename_i rs' k2' hm2
  injection hm with hm;injection hm with hm3 hm4
  subst hm3;subst hm4
  rw [rounds_succ]
  refine xhj ?_
  rw [hL]
  have hIxL:∀{E':En},E'.arr=v→E'.n=n→IxL T st E':=fun {E'} h1 h2 _=>by obtain ⟨ad,cap,e⟩:=hv;exact ⟨ad,cap,by rw [h1,h2,e]⟩
  refine xcv hT h1 hR (hIxL hEv hEn) fun a1 hR1=>?_
  have hR2:=xhb k1 hR1
  show (Code.cond (.tmp c) .skip (.exit b1)).wp P _ a1 w
  have hlt:E.i<E.n:=by rw [hEi,hEn,hlen];simp
  have hev:a1.eval (.tmp c)=.bool true:=by
   have:=hR2.at_ c .cnd (by rw [xas,if_pos rfl])
   have h3:E.val .cnd=.bool true:=by show Value.bool (decide (E.i<E.n))=_;simp [hlt]
   rw [h3] at this
   simp [Act.eval,Array.getD_eq_getD_getElem?,this]
  have hRb:xa9 nt E ((1,.kk)::R0s) a1:=⟨hR1.size,hR1.defers,fun t sv e=>by
   have hcc:lk rh t=some sv:=by
    have:=List.all_eq_true.1 k1 (t,sv) (List.mem_cons_of_mem _ (xdI e))
    simpa using this
   exact hR1.at_ t sv hcc⟩
  refine wp_cond_true hev (wp_skip ?_)
  show wpL P _ _ a1 w
  show (Code.block x1 B).wp P _ a1 w
  rcases hH with hH | ⟨b,off,cap,xs,N1,hvb,hN,hW⟩
  ·simp at hH
  obtain ⟨x2',Ns,hP,hsub,hfin⟩:=hW.elem
  let E1:En:={ E with b:=b,base:=off+done.length*T.esz st,cells:=x2' }
  have hRE:xa9 nt E1 ((1,.kk)::R0s) a1:=hRb.turn fun t sv e=>by
   have hmem:=xdI e
   simp only [R0s,List.mem_cons,List.not_mem_nil,or_false,Prod.mk.injEq] at hmem
   rcases hmem with ⟨_,rfl⟩ | ⟨_,rfl⟩ | ⟨_,rfl⟩<;>rfl
  have hIx:IxP T st E1:=fun _=>⟨off,cap,by show E.arr=_;rw [hEv,hEn];exact hvb,hlt,by show off+done.length*T.esz st=off+E.i*T.esz st;rw [hEi]⟩
  have hrl:r.length=T.esz st:=hW.ln r (by simp)
  refine wp_block (xhj (xfy hT hρ htx (E:=E1) hd hm1 hRE hP hrl hIx (hIxL hEv hEn) hk hEt fun a2 w2 c2 kr2 q1 q2 q3 q4 q5 _=>?_))
  show wpL P [.region x2 oi false] _ a2 w2
  have hRE2:xa9 nt { E with k:=kr,tx:=mt kr } ((1,.kk)::R0s) a2:=q1.turn fun t sv e=>by
   have hmem:=xdI e
   simp only [R0s,List.mem_cons,List.not_mem_nil,or_false,Prod.mk.injEq] at hmem
   rcases hmem with ⟨_,rfl⟩ | ⟨_,rfl⟩ | ⟨_,rfl⟩<;>rfl
  refine xcv hT h2 hRE2 (hIxL hEv hEn) fun a3 hR3=>?_
  show Code.rounds P L Q (rest.length+1) a3 w2
  have hR4:=xhb k2 hR3
  let E2:En:={ E with i:=done.length+1,k:=kr,tx:=mt kr }
  have hR5:xa9 nt E2 ((1,.kk)::R0s) a3:=by
   refine ⟨hR4.size,hR4.defers,fun t sv e=>?_⟩
   simp only [R0s,xas] at e
   split at e
   ·rename_i e';subst e';injection e with e;subst e
    exact hR4.at_ 1 .kk rfl
   ·split at e
    ·rename_i e';subst e';injection e with e;subst e
     exact hR4.at_ 0 .arr rfl
    ·split at e
     ·rename_i e';subst e';injection e with e;subst e
      rw [hR4.at_ 5 .iinc rfl]
      show some (Value.int .i64 (IntKind.i64.wrap ((E.i:Int)+1)))=some (.int .i64 ((done.length+1:Nat):Int))
      have hsmall:done.length<1000000000000000000:=by omega
      have hwr:IntKind.i64.wrap ((E.i:Int)+1)=((done.length+1:Nat):Int):=by rw [hEi,IntKind.wrap_i64];omega
      rw [hwr]
     ·cases e
  obtain ⟨⟨xs2,hW2⟩,hM2⟩:=hfin w2 r' c2 q2 q3 q4
  have hH2:HW v n N (T.esz st) w2 ((done++[r'])++rest):=.inr ⟨b,off,cap,xs2,N1,hvb,hN,by rw [List.append_assoc];exact hW2⟩
  rw [←hN] at hM2
  refine ih (done++[r']) a3 w2 E2 rs' _ hm2 (by simp at hlen ⊢;omega) hR5 hEv (by simp [E2]) hEn rfl q5 hH2 fun a' w' E' p1 p2 p3 p4 p5 p6 p7 p8=>?_
  refine hQ a' w' E' p1 p2 p3 p4 (hM2.trans p5) (by rw [List.append_assoc] at p6;exact p6) (by simp [p7]) fun hl q hq=>?_
  rcases List.mem_cons.1 hq with rfl | hq
  ·exact q4
  ·exact p8 (fun q hq=>hl q (by simp [hq])) q hq
theorem xd1 (hT : xaz P T) (hρ : xiQ P ρ) (htx : xgR P tx mt) {f : FuncId} {fn : Func} (hf : P.funcs[f]? = some fn) (hname : (fn.name == "runtime.NumGoroutine") = false) {ss : List (Option Eff × SV)} (hd : dslice T st tx fn = some ss) : xlA P f (.sl (mkS ρ mt (T.esz st) ss)) := by
 intro p k p' k' hm hk
 unfold mkS at hm
 split at hm
 case h_2=>cases hm
 rename_i s rows
 split at hm
 case isFalse=>cases hm
 rename_i hs
 obtain ⟨hs,hsm⟩:=hs
 split at hm
 case h_2=>cases hm
 rename_i rows' k2 hm1
 injection hm with hm;injection hm with hm2 hm3
 subst hm2;subst hm3;subst hs
 unfold dslice at hd
 split at hd
 case h_2=>cases hd
 rename_i body d hbody hres
 split at hd
 case h_2=>cases hd
 rename_i i1 o1 i2 o2 b0 L i3 o3 hseq
 split at hd
 case h_2=>cases hd
 rename_i r1 g1
 split at hd
 case h_2=>cases hd
 rename_i r2 r3 g2 g3
 split at hd
 case isFalse=>cases hd
 rename_i hcond
 obtain ⟨c1,c2,c3,c4⟩:=hcond
 have hnt:2≤fn.ntmps:=Nat.le_of_ble_eq_true c3
 have hlk:∀{rest done:List (List PV)} {k:Int} {rest':List (List PV)} {k':Int},xc9 ρ mt ss rest k=some (rest',k')→rest'.length=rest.length:=by
  intro rest
  induction rest with
  | nil=>intro _ k rest' k' h;simp only [xc9] at h;injection h with h;injection h with h _;subst h;rfl
  | cons r rest ih =>
   intro _ k rest' k' h
   simp only [xc9] at h
   split at h
   ·split at h
    ·rename_i h2;injection h with h;injection h with h _;subst h;simp [ih (done:=[]) h2]
    ·cases h
   ·cases h
 have hwhole:∀(w:World) (v:Value) (N:List Nat),xak w [.list (T.esz st) rows] [v] N→N.Nodup→(∀b∈N,Wr1 w b) →
  Calls P f #[v,.int .i64 k] w fun e w'=>e=.returned (.int .i64 k2)∧Mod N w w'∧xak w' [.list (T.esz st) rows'] [v] N∧((∀q∈rows,q.length=T.esz st)→∀q∈rows',q.length=T.esz st):=by
  intro w v N hrep hnd hwr
  have hvn:∃ad cap,v=.slice ad rows.length cap:=by cases hrep<;>exact ⟨_,_,rfl⟩
  have hH:HW v rows.length N (T.esz st) w ([]++rows):=by
   cases hrep with
   | lnil h=>exact .inl rfl
   | @list _ _ b off cap xs N1 _ _ N2 h0 h1 h2 h3 cells h4 h5 =>
    cases h5
    simp only [List.append_nil] at hnd hwr ⊢
    exact .inr ⟨b,off,cap,xs,N1,rfl,rfl,cells,h4,h2,hnd,hwr⟩
  refine calls_of_wp hf hbody ?_
  let E:En:=⟨v,0,rows.length,0,0,[],k,0,mt k⟩
  have hR0:xa9 fn.ntmps E [(1,.kk),(0,.arr)] { tmps:=#[v,.int .i64 k]++Array.replicate (fn.ntmps-(#[v,.int .i64 k]:Array Value).size) undef,defers:=[] }:=by
   refine ⟨by simp;omega,rfl,fun t sv e=>?_⟩
   simp only [xas] at e
   split at e
   ·rename_i e';subst e';injection e with e;subst e;rw [Array.getElem?_append_left (by simp)];rfl
   ·split at e
    ·rename_i e';subst e';injection e with e;subst e;rw [Array.getElem?_append_left (by simp)];rfl
    ·cases e
  have hIxL:∀{E':En},E'.arr=v→E'.n=rows.length→IxL T st E':=fun {E'} h1 h2 _=>by obtain ⟨ad,cap,e⟩:=hvn;exact ⟨ad,cap,by rw [h1,h2,e]⟩
  refine xhj ?_
  rw [hseq]
  refine xcv hT g1 hR0 (hIxL rfl rfl) fun a1 hR1=>?_
  show wpL P _ _ a1 w
  refine xcv hT g2 hR1 (hIxL rfl rfl) fun a2 hR2=>?_
  show wpL P _ _ a2 w
  have hR3:=xhb c1 hR2
  have hR4:xa9 fn.ntmps E ((1,.kk)::R0s) a2:=by
   refine ⟨hR3.size,hR3.defers,fun t sv e=>?_⟩
   simp only [R0s,xas] at e
   split at e
   ·rename_i e';subst e';injection e with e;subst e;exact hR3.at_ 1 .kk rfl
   ·split at e
    ·rename_i e';subst e';injection e with e;subst e;exact hR3.at_ 0 .arr rfl
    ·split at e
     ·rename_i e';subst e';injection e with e;subst e;exact hR3.at_ 5 .zero rfl
     ·cases e
  refine wp_block (wp_loop_rounds (rows.length+1) ?_)
  refine xnv hT hρ htx hd v rows.length hsm N hvn rows [] a2 w E rows' k2 hm1 (by simp) hR4 rfl rfl rfl rfl hk hH fun a3 w3 E3 p1 p2 p3 p4 p5 p6 p7 p8=>?_
  show Exit.inBlock b0 _ (.exit b0) a3 w3
  simp only [Exit.inBlock,if_true]
  show wpL P _ _ a3 w3
  refine xcv hT g3 p1 (hIxL p3 p4) fun a4 hR5=>?_
  show wpL P _ _ a4 w3
  refine wp_ret ?_
  refine (show bodyPost P fn (fun e w'=>e=.returned (.int .i64 k2)∧Mod N w w'∧xak w' [.list (T.esz st) rows'] [v] N∧((∀q∈rows,q.length=T.esz st)→∀q∈rows',q.length=T.esz st)) .ret a4 w3 from ?_)
  refine ⟨hR5.defers,.int .i64 k2,?_,rfl,p5,?_,p8⟩
  ·have hd':=hR5.at_ d .kk c2
   have hv':E3.val .kk=.int .i64 k2:=by show Value.int .i64 E3.k=_;rw [p2]
   rw [hv'] at hd'
   have hres':fn.results=#[.tmp d]:=Array.ext' (by simpa using hres)
   unfold results
   rw [hres']
   simp [Array.getD_eq_getD_getElem?,hd']
  ·rcases p6 with p6 | ⟨b,off,cap,xs,N1,q1,q2,q3⟩
   ·have:rows'=[]:=by simpa using p6
    subst this
    have hr0:rows=[]:=List.eq_nil_of_length_eq_zero p7.symm
    subst hr0
    cases hrep with
    | lnil h=>cases h;exact .lnil .nil
    | list _ h0=>exact absurd rfl h0
   ·rw [List.nil_append] at q3
    have hne:rows'≠[]:=by
     intro e
     subst e
     have hr0:rows=[]:=List.eq_nil_of_length_eq_zero p7.symm
     subst hr0
     cases hrep with
     | lnil h=>cases h;cases q2
     | list _ h0=>exact absurd rfl h0
    rw [q1,q2,←p7]
    have hcap:rows'.length≤cap:=by
     cases hrep with
     | lnil h=>exact absurd (List.eq_nil_of_length_eq_zero p7) hne
     | list h0 h1 h2 h3 cells h4 h5=>injection q1 with _ _ e3;rw [p7,←e3];exact h3
    have:=xak.list (w:=w3) (sz:=T.esz st) (cap:=cap) (ps:=[]) (vs:=[]) (N2:=[]) (Nat.pos_of_ne_zero c4) hne q3.ln hcap (fun j u hu=>q3.at_ j u hu) q3.rep .nil
    simpa using this
 refine ⟨⟨fn,hf,hname,by rw [hbody];rfl⟩,⟨rows',rfl,hlk (done:=[]) hm1,?_⟩,fun w v N h1 h2 h3=>(hwhole w v N h1 h2 h3).mono fun e w' ⟨q1,q2,q3,_⟩=>⟨q1,q2,q3⟩⟩
 intro hl
 have hgo:∀{s:Option Eff×SV} {r r':List PV} {k k':Int},xp5 ρ mt s r k=some (r',k')→rg64 k=true→r'.length=r.length∧rg64 k'=true:=by
  intro s r r' k k' h hk
  obtain ⟨e,sv⟩:=s
  unfold xp5 at h
  cases e with
  | none =>
   simp only at h
   split at h
   ·injection h with h;injection h with h h2;subst h;subst h2;exact ⟨rfl,hk⟩
   ·injection h with h;injection h with h h2;subst h;subst h2;exact ⟨rfl,xhC _⟩
   ·cases h
  | some ef =>
   simp only at h
   split at h
   ·rename_i rr kr hef
    have hl':rr.length=r.length:=by
     cases ef with
     | store off t =>
      simp only [xj4] at hef
      split at hef
      ·split at hef
       ·injection hef with hef;injection hef with hef _;rw [←hef,List.length_set]
       ·cases hef
      ·cases hef
     | call off n g =>
      cases n with
      | none =>
       simp only [xj4] at hef
       split at hef
       ·split at hef
        ·split at hef
         ·injection hef with hef;injection hef with hef _;rw [←hef,List.length_set]
         ·cases hef
        ·cases hef
       ·cases hef
      | some m =>
       simp only [xj4] at hef
       split at hef
       ·rename_i mm hmm
        split at hef
        ·rename_i hle
         split at hef
         ·rename_i q kq hq
          split at hef
          ·injection hef with hef;injection hef with hef _
           have:=(xnu hρ hmm _ k q kq hq hk).2.1.len
           rw [←hef]
           simp only [List.length_append,this,List.length_take,List.length_drop]
           omega
          ·cases hef
         ·cases hef
        ·cases hef
       ·cases hef
    split at h
    ·injection h with h;injection h with h h2;subst h;subst h2;exact ⟨hl',hk⟩
    ·injection h with h;injection h with h h2;subst h;subst h2;exact ⟨hl',xl9 hk hef⟩
    ·cases h
   ·cases h
 have hrow:∀{ss:List (Option Eff×SV)} {r r':List PV} {k k':Int},xcw ρ mt ss r k=some (r',k')→rg64 k=true→r'.length=r.length∧rg64 k'=true:=by
  intro ss
  induction ss with
  | nil=>intro r r' k k' h hk;simp only [xcw] at h;injection h with h;injection h with h h2;subst h;subst h2;exact ⟨rfl,hk⟩
  | cons s ss ih =>
   intro r r' k k' h hk
   simp only [xcw] at h
   split at h
   ·rename_i r1 k1 h1
    obtain ⟨l1,k1'⟩:=hgo h1 hk
    obtain ⟨l2,k2'⟩:=ih h k1'
    exact ⟨by omega,k2'⟩
   ·cases h
 have hrows:∀{rest:List (List PV)} {k:Int} {rest':List (List PV)} {k':Int},xc9 ρ mt ss rest k=some (rest',k')→rg64 k=true→(∀q∈rest,q.length=T.esz st)→∀q∈rest',q.length=T.esz st:=by
  intro rest
  induction rest with
  | nil=>intro k rest' k' h _ _;simp only [xc9] at h;injection h with h;injection h with h _;subst h;simp
  | cons r rest ih =>
   intro k rest' k' h hk hl
   simp only [xc9] at h
   split at h
   ·rename_i r1 k1 h1
    split at h
    ·rename_i rs k2 h2
     injection h with h;injection h with h _;subst h
     obtain ⟨l1,k1'⟩:=hrow h1 hk
     intro q hq
     rcases List.mem_cons.1 hq with rfl | hq
     ·rw [l1];exact hl r (by simp)
     ·exact ih h2 k1' (fun q hq=>hl q (by simp [hq])) q hq
    ·cases h
   ·cases h
 exact hrows hm1 hk hl
end
end Go.Ev
/- Functions that write a count: structs' functions; entries. -/
namespace Go.Ev
open Go.RowKit
def dstruct (T:Tab) (tx:FuncId) (esz:Nat) (fn:Func):Option (List (Option Eff×SV)) :=
 match fn.body,fn.results.toList with
 | some body,[.tmp d]=>match seqs body with
  | .region _ o1 false::rest=>match o1.toList with
   | [p,q]=>match p.op,p.dst,p.guard with
    | .box _ (.tmp x),some d0,none=>match rest.reverse with
     | .ret::.region _ o3 false::mid =>
      match pops T 0 tx fn.ntmps esz [q] [(1,.kk)],pops T 0 tx fn.ntmps esz o3.toList [(1,.kk)] with
      | some r1,some r3=>if x=0∧q.dst≠some d0∧d0≠1∧d0<fn.ntmps∧xlX r1 [(1,.kk)]=true∧lk r3 d=some .kk∧Nat.ble 2 fn.ntmps=true then (match dregs T 0 tx fn.ntmps esz [(d0,.ptr 0)] mid.reverse with
       | some ss=>if (ss.all fun s=>!xlY s.1)=true then some ss else none
       | none=>none) else none
      | _,_=>none
     | _=>none
    | _,_,_=>none
   | _=>none
  | _=>none
 | _,_=>none
def mkT (ρ:List (Nat×MM)) (mt:Int→ByteArray) (esz:Nat) (ss:List (Option Eff×SV)) (ps:List PV) (k:Int):Option (List PV×Int):=if ps.length=esz then xcw ρ mt ss ps k else none
theorem xhk {P:Program} {Q:Exit→Act→World→Prop}:∀{x y:List Code} {a:Act} {w:World},wpL P x (Exit.then (wpL P y Q) Q) a w→wpL P (x++y) Q a w
 | [],y,a,w,h=>h
 | c::x,y,a,w,h=>by
  refine Code.wp_mono (xhm (fun a w h=>xhk h) fun e a w hn h=>?_) h
  cases e with
  | normal=>exact absurd rfl hn
  | _=>exact h
section
variable {P : Program} {T : Tab} {tx : FuncId} {esz : Nat} {ρ : List (Nat × MM)} {mt : Int → ByteArray}
theorem xnF (hρ:xiQ P ρ) {k:Int} {ef:Eff} {r r':List PV} {k':Int} (hk:rg64 k=true) (h:xj4 ρ mt k ef r=some (r',k')):Likes r r':=by
 have hrefl:∀(r:List PV),Likes r r:=by
  intro r
  induction r with
  | nil=>rfl
  | cons p r ih=>exact ⟨p,r,rfl,by cases p<;>first | trivial | exact ⟨_,rfl,rfl,fun h=>h⟩,ih⟩
 have happ:∀{a b c d:List PV},Likes a b→Likes c d→Likes (a++c) (b++d):=by
  intro a
  induction a with
  | nil=>intro b c d h h2;have:b=[]:=h;subst this;exact h2
  | cons p a ih=>intro b c d ⟨q,r,e,h1,h2⟩ h3;subst e;exact ⟨q,_,rfl,h1,ih h2 h3⟩
 have hset:∀{r:List PV} {off:Nat} {p q:PV},r[off]? = some p→PV.like p q→Likes r (r.set off q):=by
  intro r off p q h1 h2
  obtain ⟨e,l⟩:=xdM h1
  rw [xfK q h1]
  conv=>lhs;rw [e]
  exact happ (hrefl _) (happ ⟨q,[],rfl,h2,rfl⟩ (hrefl _))
 cases ef with
 | store off t =>
  simp only [xj4] at h
  split at h
  ·rename_i p hp
   split at h
   ·rename_i hpf
    injection h with h;injection h with h _
    rw [←h]
    exact hset hp (by cases p<;>first | trivial | (simp [PV.flat] at hpf))
   ·cases h
  ·cases h
 | call off n g =>
  cases n with
  | none =>
   simp only [xj4] at h
   split at h
   ·rename_i p m hp hm
    split at h
    ·rename_i p' kk hpm
     split at h
     ·injection h with h;injection h with h _
      rw [←h]
      exact hset hp (xnu hρ hm p k p' kk hpm hk).2.1
     ·cases h
    ·cases h
   ·cases h
  | some m =>
   simp only [xj4] at h
   split at h
   ·rename_i mm hmm
    split at h
    ·rename_i hle
     split at h
     ·rename_i q kq hq
      split at h
      ·injection h with h;injection h with h _
       rw [←h]
       have hl:=(xnu hρ hmm _ k q kq hq hk).2.1
       have e:r=r.take off++(r.drop off).take m++r.drop (off+m):=by
        rw [List.append_assoc,←List.drop_drop,List.take_append_drop,List.take_append_drop]
       conv=>lhs;rw [e]
       exact happ (happ (hrefl _) hl) (hrefl _)
      ·cases h
     ·cases h
    ·cases h
   ·cases h
theorem Likes.refl':∀(r:List PV),Likes r r
 | []=>rfl
 | p::r=>⟨p,r,rfl,by cases p<;>first | trivial | exact ⟨_,rfl,rfl,fun h=>h⟩,Likes.refl' r⟩
theorem PV.like_trans {p q r:PV} (h:PV.like p q) (k:PV.like q r):PV.like p r:=by
 cases p with
 | list sz rows =>
  obtain ⟨r1,e,l1,m1⟩:=h
  subst e
  obtain ⟨r2,e,l2,m2⟩:=k
  exact ⟨r2,e,l2.trans l1,fun h=>m2 (m1 h)⟩
 | _=>trivial
theorem Likes.trans:∀{a b c:List PV},Likes a b→Likes b c→Likes a c
 | [],b,c,h,k=>by have:b=[]:=h;subst this;exact k
 | p::a,_,_,⟨q,r,e,h1,h2⟩,k=>by
  subst e
  obtain ⟨q',r',e,k1,k2⟩:=k
  exact ⟨q',r',e,PV.like_trans h1 k1,h2.trans k2⟩
theorem xhM (hρ:xiQ P ρ):∀{ss:List (Option Eff×SV)} {r r':List PV} {k k':Int},xcw ρ mt ss r k=some (r',k')→rg64 k=true→Likes r r'∧rg64 k'=true
 | [],r,r',k,k',h,hk=>by simp only [xcw] at h;injection h with h;injection h with h h2;subst h;subst h2;exact ⟨.refl' _,hk⟩
 | s::ss,r,r',k,k',h,hk=>by
  simp only [xcw] at h
  split at h
  case h_2=>cases h
  rename_i r1 k1 h1
  have:Likes r r1∧rg64 k1=true:=by
   obtain ⟨e,sv⟩:=s
   unfold xp5 at h1
   cases e with
   | none =>
    simp only at h1
    split at h1
    ·injection h1 with h1;injection h1 with h1 h2;subst h1;subst h2;exact ⟨.refl' _,hk⟩
    ·injection h1 with h1;injection h1 with h1 h2;subst h1;subst h2;exact ⟨.refl' _,xhC _⟩
    ·cases h1
   | some ef =>
    simp only at h1
    split at h1
    ·rename_i rr kr hef
     have hl:=xnF hρ hk hef
     split at h1
     ·injection h1 with h1;injection h1 with h1 h2;subst h1;subst h2;exact ⟨hl,hk⟩
     ·injection h1 with h1;injection h1 with h1 h2;subst h1;subst h2;exact ⟨hl,xl9 hk hef⟩
     ·cases h1
    ·cases h1
  obtain ⟨l1,k1'⟩:=this
  obtain ⟨l2,k2'⟩:=xhM hρ h k1'
  exact ⟨l1.trans l2,k2'⟩
theorem xfG (hT : xaz P T) (hρ : xiQ P ρ) (htx : xgR P tx mt) {f : FuncId} {fn : Func} (hf : P.funcs[f]? = some fn) (hname : (fn.name == "runtime.NumGoroutine") = false) {ss : List (Option Eff × SV)} (hd : dstruct T tx esz fn = some ss) : xlA P f (.st (mkT ρ mt esz ss)) := by
 intro ps k ps' k' hm hk
 unfold mkT at hm
 split at hm
 case isFalse=>cases hm
 rename_i hlen
 have h0:T.esz 0=0:=by unfold Tab.esz;rw [hT.zero]
 unfold dstruct at hd
 split at hd
 case h_2=>cases hd
 rename_i body d hbody hres
 split at hd
 case h_2=>cases hd
 rename_i i1 o1 rest hseq
 split at hd
 case h_2=>cases hd
 rename_i p q ho1
 split at hd
 case h_2=>cases hd
 rename_i tb x d0 hop hdst hgd
 split at hd
 case h_2=>cases hd
 rename_i i3 o3 mid hrev
 split at hd
 case h_2=>cases hd
 rename_i r1 r3 g1 g3
 split at hd
 case isFalse=>cases hd
 rename_i hcond
 obtain ⟨c0,c1,c2,c3,c4,c5,c6⟩:=hcond
 split at hd
 case h_2=>cases hd
 rename_i ss' hregs
 split at hd
 case isFalse=>cases hd
 rename_i hns
 injection hd with hd
 subst hd;subst c0
 have hnt:2≤fn.ntmps:=Nat.le_of_ble_eq_true c6
 have hrest:rest=mid.reverse++[.region i3 o3 false,.ret]:=by
  have:=congrArg List.reverse hrev
  simpa using this
 refine ⟨⟨fn,hf,hname,by rw [hbody];rfl⟩,(xhM hρ hm hk).1,fun w vs Ns hrep hnd hwr=>?_⟩
 suffices key:∀R:Ending→World→Prop,(∀w',Mod Ns.flatten w w'→xaB w' ps' vs Ns→R (.returned (.int .i64 k')) w')→Calls P f #[.agg vs.toArray,.int .i64 k] w R from key _ fun w' h1 h2=>⟨rfl,h1,h2⟩
 intro R hRR
 refine calls_of_wp hf hbody ?_
 refine xhj ?_
 rw [hseq]
 let b:=w.heap.size
 let w1:=w.alloc (.cells vs.toArray tb)
 have hB:Below w.heap.size w w1:=⟨rfl,rfl,rfl,by simp [w1],fun k hk=>heap_alloc_old w _ k hk⟩
 have hnew:w1.heap[b]? = some (.cells vs.toArray tb (0,0)):=heap_alloc_new w _
 have hNlt:∀x∈Ns.flatten,x<w.heap.size:=fun x hx=>(hwr x hx).lt
 let E:En:=⟨undef,0,0,b,0,vs,k,0,mt k⟩
 have hIxL:∀{E':En},IxL T 0 E':=fun {E'} h=>absurd h0 h
 have hIxP:∀{E':En},IxP T 0 E':=fun {E'} h=>absurd h0 h
 let a0:Act:={ tmps:=#[.agg vs.toArray,.int .i64 k]++Array.replicate (fn.ntmps-(#[.agg vs.toArray,.int .i64 k]:Array Value).size) undef,defers:=[] }
 have hR0:xa9 fn.ntmps E [(1,.kk)] a0:=by
  refine ⟨by simp [a0];omega,rfl,fun t sv e=>?_⟩
  simp only [xas] at e
  split at e
  ·rename_i e';subst e';injection e with e;subst e;show (#[.agg vs.toArray,.int .i64 k]++_:Array Value)[1]? = _;rw [Array.getElem?_append_left (by simp)];rfl
  ·cases e
 have hx0:a0.eval (.tmp 0)=.agg vs.toArray:=by
  show (#[.agg vs.toArray,.int .i64 k]++_:Array Value).getD 0 undef=_
  rw [Array.getD_eq_getD_getElem?,Array.getElem?_append_left (by simp)];rfl
 have hP:PS w1 b 0 ps vs Ns:=by
  refine ⟨fun j u hu=>?_,hrep.stable fun x hx=>heap_alloc_old w _ x (hNlt x hx),hnd,fun x hx=>(hwr x hx).stay (heap_alloc_old w _ x (hNlt x hx)),⟨_,_,hnew⟩,fun hx=>Nat.lt_irrefl _ (hNlt b hx)⟩
  rw [cell_of_row w1 b (0+j) _ tb (0,0) hnew]
  simpa using hu
 show (Code.region i1 o1 false).wp P _ a0 w
 refine wp_region ?_
 have hg2:q.guard=none:=xgf g1 q (by simp)
 have hgo:=xg5 (P:=P) (ops:=o1) (Q:=Exit.then (wpL P rest (bodyPost P fn R)) (bodyPost P fn R)) o1.toList 0 a0 w (fun j=>by simp) (by rw [ho1];intro o ho;simp at ho;rcases ho with rfl | rfl;exact hgd;exact hg2)
 have e0:(List.range o1.toList.length).map (0+·)=List.range o1.size:=by
  rw [show (fun x=>0+x)=(fun x:Nat=>x) by funext x;omega,List.map_id']
  simp
 rw [e0] at hgo
 refine hgo ?_
 rw [ho1]
 have hbox:(execOp a0.eval p).run P w=.ok (.value (.pointer (some ⟨b,0,none⟩))) w1:=by
  simp [execOp,hop,Instr.box,xge,hx0,Value.cells,w1,b]
 show p.wp P a0 w (xq8 P _ [q] _) _
 refine xbv hbox ?_
 have hR1:xa9 fn.ntmps E [(d0,.ptr 0),(1,.kk)] (a0.put p.dst (.pointer (some ⟨b,0,none⟩))):=by
  have:=hR0.put (d:=p.dst) (by rw [hdst];simpa [xo7] using c3) (.ptr 0)
  rw [hdst] at this ⊢
  exact this
 have hR1':xa9 fn.ntmps E [(1,.kk)] (a0.put p.dst (.pointer (some ⟨b,0,none⟩))):=hR1.sub fun x hx=>by simp at hx;subst hx;exact fun e=>c2 e.symm
 have g1':=g1
 simp only [pops] at g1'
 split at g1'
 case isFalse=>cases g1'
 rename_i hc
 split at g1'
 case h_2=>cases g1'
 rename_i v hmv
 have hpure:(∀off n,v≠.ld off n)→(∀off,v≠.ptr off)→(execOp (a0.put p.dst (.pointer (some ⟨b,0,none⟩))).eval q).run P w1=.ok (.value (E.val v)) w1:=fun h1 h2=>xjK hT hmv hR1' (fun ⟨off,n,e⟩=>absurd e (h1 off n)) (fun e=>absurd e (h2 0)) hIxL
 split at g1'
 ·cases g1'
 ·cases g1'
 ·rename_i n1 n2
  injection g1' with g1'
  refine xbv (hpure (fun off n e=>n1 off n e) fun off e=>n2 off e) ?_
  have hR2:=hR1.put hc.2 v
  have hR3:xa9 fn.ntmps E ((1,.kk)::[(d0,.ptr 0)]) ((a0.put p.dst (.pointer (some ⟨b,0,none⟩))).put q.dst (E.val v)):=by
   refine ⟨hR2.size,hR2.defers,fun t sv e=>?_⟩
   simp only [xas] at e
   split at e
   ·rename_i e';subst e';injection e with e;subst e
    have h4:xlX (xnX [(1,.kk)] q.dst v) [(1,.kk)]=true:=by rw [g1'];exact c4
    have h5:lk (xnX [(1,.kk)] q.dst v) 1=some .kk:=by simpa [xlX] using h4
    have hR4:=hR1'.put hc.2 v
    exact hR4.at_ 1 .kk h5
   ·split at e
    ·rename_i e';subst e';injection e with e;subst e
     refine hR2.at_ d0 (.ptr 0) ?_
     cases hqd:q.dst with
     | none=>simp [xnX,xas]
     | some dq =>
      have:dq≠d0:=fun e=>c1 (by rw [hqd,e])
      simp [xnX,xas,this]
    ·cases e
  show wpL P rest (bodyPost P fn R) _ w1
  rw [hrest]
  refine xhk (xfy hT hρ htx (E:=E) hregs hm hR3 hP hlen hIxP hIxL hk rfl fun a2 w2 c2 kr2 q1 q2 q3 q4 q5 q6=>?_)
  show wpL P [.region i3 o3 false,.ret] (bodyPost P fn R) a2 w2
  have hc2:c2=vs:=q6 hns
  subst hc2
  have hR5:xa9 fn.ntmps { E with cells:=c2,kr:=kr2,k:=k',tx:=mt k' } [(1,.kk)] a2:=⟨q1.size,q1.defers,fun t sv e=>by
   simp only [xas] at e
   split at e
   ·rename_i e';subst e';injection e with e;subst e;exact q1.at_ 1 .kk rfl
   ·cases e⟩
  refine xcv hT g3 hR5 hIxL fun a3 hR6=>?_
  show wpL P [.ret] (bodyPost P fn R) a3 w2
  refine wp_ret ?_
  refine (show bodyPost P fn R .ret a3 w2 from ?_)
  refine ⟨hR6.defers,.int .i64 k',?_,hRR w2 ?_ q2.rep⟩
  ·have hd':=hR6.at_ d .kk c5
   have hd'':a3.tmps[d]? = some (.int .i64 k'):=hd'
   have hres':fn.results=#[.tmp d]:=Array.ext' (by simpa using hres)
   unfold results
   rw [hres']
   simp [Array.getD_eq_getD_getElem?,hd'']
  ·refine ⟨q3.m.os,q3.m.tape,q3.m.output,Nat.le_trans hB.size q3.m.size,fun x hx hn=>?_,fun x hx c t hc=>?_⟩
   ·refine (q3.m.block x (Nat.lt_of_lt_of_le hx hB.size) fun hm=>?_).trans (hB.block x hx)
    rcases List.mem_cons.1 hm with e | hm
    ·exact Nat.lt_irrefl _ (e▸hx)
    ·exact hn hm
   ·exact q3.m.cells x (List.mem_cons_of_mem _ hx) c t ((hB.block x (hNlt x hx)).trans hc)
end
end Go.Ev
