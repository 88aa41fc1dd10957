/- An evaluator of pure values over the code of the model, proved sound, part 3. -/
import Derived.Test.YtmhmcamcenidaaaGreatEv2
import Derived.LoopN
/- append: what is asked of it, against the machine. -/
set_option linter.unusedSimpArgs false
set_option linter.unusedVariables false
namespace Go.Ev
open Go.RowKit
section
variable {P : Program} {T : Tab} {o : Oper} {F : Fr} {w0 : Base} {G : Gh} {a : Act} {w : World}
structure BaseOK (G:Gh) (F:Fr) (w:World) (v:Value) (elem:TypeId) (sz:Nat) (kind:RK) (D0:List Nat) (rowsX:List (List PV)) (xs:List Value) (N0:List Nat):Prop where
 own:w.ownsRow 0 elem sz v rowsX.length xs
 rep:RepVals w rowsX.flatten xs N0
 len:∀q∈rowsX,q.length=sz
 vo:∀b,v.ownBlock=some b→∃q∈D0,G.own b=some q
 nn:∀x∈N0,v.ownBlock≠some x∧((∃q∈D0,G.own x=some q)∨(kind=.flat∧G.S x))
 nd:kind=.deep→N0.Nodup
 ns:kind≠.shared
 dd:∀q∈D0,lk F.rows q=none∧lk F.boxes q=none
theorem catP_inv {sz:Nat} {rowsX:List (List PV)} {y:PV} {k:PV→Prop} (h:catP sz (.list sz rowsX) y k):∃more,y=.list sz more∧rowsX.length+more.length<1073741824∧k (.list sz (rowsX++more)):=by
 unfold catP at h
 split at h
 ·rename_i heq
  injection heq with h1 h2
  subst h1;subst h2
  obtain ⟨_,rfl,h3,h4⟩:=h
  exact ⟨_,rfl,h3,h4⟩
 ·exact h.elim
theorem flat_read {S:Nat→Prop} {sz:Nat} {rows:List (List PV)} {v:Value} (h:RepS S w [.list sz rows] [v]) (hf:flatRows (.list sz rows)) :
 ∃ad c news,v=.slice ad rows.length c∧RepVals w rows.flatten news []∧(∀q∈rows,q.length=sz)∧(∀aa,ad=some aa→∀j u,news[j]? = some u→w.cell? (aa.add j)=some u)∧(ad=none→rows.length=0):=by
 obtain ⟨ad,c,news,NY,h1,h2,h3,h4,h5,_⟩:=list_read h
 have:NY=[]:=RepVals.flat_nil (fun p hp=>by
  obtain ⟨r,hr,hp⟩:=List.mem_flatten.1 hp
  exact hf r hr p hp) h2
 subst this
 exact ⟨ad,c,news,h1,h2,h3,h4,h5⟩
theorem seq_go {t:TypeId} {x y:Operand} {i e:TI} {cy:Cell} {kind:RK} {D0:List Nat} {v:Value} {rowsX:List (List PV)} {xs:List Value} {N0:List Nat} {k:Fr→Prop} (hT:TabOK P T) (h:St w0 G F a w)
 (hop:o.op=.call { callee:=.builtin .append,args:=#[x,y],argTypes:=#[t,t] }) (ht:P.underlying t=some (.slice i.elem)) (he:lk T.ti i.elem=some e) (hvx:a.eval x=v) (hb:BaseOK G F w v i.elem e.size kind D0 rowsX xs N0) (hcy:RepC G w cy (a.eval y))
 (hk:appGo T o.dst i cy k (.list e.size rowsX) kind F) {K:Act→World→Prop} {Q:Exit→Act→World→Prop}
 (hK:∀G' F' a' w',St w0 G' F' a' w'→k F'→K a' w'):o.wp P a w K Q:=by
 have hes:T.sz i.elem=e.size:=by simp [Tab.sz,he]
 unfold appGo at hk
 simp only [hes] at hk
 have hwf:kind.with false≠.shared∧(kind.with false=.deep→False):=by
  have:=hb.ns
  cases kind<;>simp [RK.with] at this ⊢
 have plainCase:∀{p:PV},cellPV F cy=some p→flatRows p→(catP e.size (.list e.size rowsX) p fun r=>k (put (newRow F ⟨kind,i.elem,e.size,r⟩) o.dst (.one (.own F.next))))→o.wp P a w K Q:=by
  intro p hp hf hc
  obtain ⟨more,rfl,hbd,hk'⟩:=catP_inv hc
  obtain ⟨ad,c,news,r1,r2,r3,r4,r5⟩:=flat_read (cellPV_rep h.rel hp hcy) hf
  exact seq_append_core hT h hop ht he hvx r1 hb.own hb.rep hb.len r2 r3 r4 r5 hbd hb.vo (by simpa using hb.nn) hb.ns (fun hd=>by simpa using hb.nd hd) hb.dd hk' hK
 have sharedCase:∀{F1:Fr} {G1:Gh} {more:List (List PV)},St w0 G1 F1 a w→GhLe G G1→(∀x q,G.own x=some q→q∈D0→G1.own x=some q)→(∀q∈D0,lk F1.rows q=none∧lk F1.boxes q=none)→RepS G1.S w [.list e.size more] [a.eval y]→rowsX.length+more.length<1073741824 →
  k (put (newRow F1 ⟨kind.with false,i.elem,e.size,.list e.size (rowsX++more)⟩) o.dst (.one (.own F1.next)))→o.wp P a w K Q:=by
  intro F1 G1 more hS1 hG1 hown1 hd1 hrep hbd hk'
  obtain ⟨ad,c,news,NY,r1,r2,r3,r4,r5,r6⟩:=list_read hrep
  refine seq_append_core hT hS1 hop ht he hvx r1 hb.own hb.rep hb.len r2 r3 r4 r5 hbd (fun b hb'=>?_) (fun x hx=>?_) hwf.1 (fun hd=>(hwf.2 hd).elim) hd1 hk' hK
  ·obtain ⟨q,hq,ho⟩:=hb.vo b hb';exact ⟨q,hq,hown1 b q ho hq⟩
  ·rcases List.mem_append.1 hx with hx | hx
   ·obtain ⟨m1,m2⟩:=hb.nn x hx
    refine ⟨m1,?_⟩
    rcases m2 with ⟨q,hq,ho⟩ | ⟨hkf,m2⟩
    ·exact .inl ⟨q,hq,hown1 x q ho hq⟩
    ·exact .inr ⟨by rw [hkf];rfl,hG1.S x m2⟩
   ·have hs:=r6 x hx
    have hns:=hb.ns
    refine ⟨fun hvb=>?_,.inr ⟨?_,hs⟩⟩
    ·obtain ⟨q,hq,ho⟩:=hb.vo x hvb
     have:=hown1 x q ho hq
     rw [(hS1.rel.stb x hs).1] at this
     cases this
    ·cases kind<;>simp [RK.with] at hns ⊢
 by_cases hcown:∃idy,cy=.own idy
 ·obtain ⟨idy,rfl⟩:=hcown
  simp only at hk
  split at hk
  ·rename_i yr hyr
   have hidy:idy∉D0:=fun hm=>by have:=(hb.dd idy hm).1;rw [hyr] at this;cases this
   have hcell:cellPV F (.own idy)=some yr.e:=by simp [cellPV,hyr]
   split at hk
   ·rename_i hdeep
    obtain ⟨more,he',hbd,hk'⟩:=catP_inv hk
    obtain ⟨hs0,rowsY,news,NY,hre,lY,hvv,hown,hbo,hkk⟩:=rowOK_get (by rw [hdeep];intro h;cases h) (h.rel.rows idy yr _ hyr hcy)
    rw [he'] at hre
    injection hre with hre1 hre2
    subst hre2
    rw [←hre1] at lY hown
    rw [if_pos hdeep] at hkk
    have hS1:=h.drop idy
    have hval:∃ad c,a.eval y=.slice ad more.length c∧(∀aa,ad=some aa→∀j u,news[j]? = some u→w.cell? (aa.add j)=some u)∧(ad=none→more.length=0):=by
     rcases hown.2 with ⟨hv,h0⟩ | ⟨g,cap,cur,hv,_,hh,hn,hm,hc,htk⟩
     ·exact ⟨none,0,by rw [hv,h0],fun aa e=>(by cases e),fun _=>h0⟩
     ·refine ⟨some ⟨g,0,none⟩,cap,hv,fun aa e j u hj=>?_,fun e=>by cases e⟩
      injection e with e
      subst e
      rw [add_at,Nat.zero_add]
      rw [hv] at hown
      have hlt:j<more.length*e.size:=by
       have:=hown.1
       rcases Nat.lt_or_ge j news.length with h' | h'
       ·omega
       ·simp [List.getElem?_eq_none h'] at hj
      rw [hown.cellAt j hlt];exact hj
    obtain ⟨ad,c,r1,r4,r5⟩:=hval
    refine seq_append_core (D:=idy::D0) hT hS1 hop ht he hvx r1 hb.own hb.rep hb.len hvv lY r4 r5 hbd (fun b hb'=>?_) (fun x hx=>?_) hb.ns (fun hd=>?_) (fun q hq=>?_) hk' hK
    ·obtain ⟨q,hq,ho⟩:=hb.vo b hb';exact ⟨q,by simp [hq],ho⟩
    ·rcases List.mem_append.1 hx with hx | hx
     ·obtain ⟨m1,m2⟩:=hb.nn x hx
      refine ⟨m1,?_⟩
      rcases m2 with ⟨q,hq,ho⟩ | m2
      ·exact .inl ⟨q,by simp [hq],ho⟩
      ·exact .inr m2
     ·refine ⟨fun hvb=>?_,.inl ⟨idy,by simp,(hkk.2 x hx).1⟩⟩
      obtain ⟨q,hq,ho⟩:=hb.vo x hvb
      rw [(hkk.2 x hx).1] at ho
      injection ho with ho
      subst ho
      exact hidy hq
    ·rw [List.nodup_append]
     refine ⟨hb.nd hd,hkk.1,fun x hx z hz hxz=>?_⟩
     subst hxz
     rcases (hb.nn x hx).2 with ⟨q,hq,ho⟩ | ⟨hf,_⟩
     ·rw [(hkk.2 x hz).1] at ho
      injection ho with ho
      subst ho
      exact hidy hq
     ·rw [hd] at hf;cases hf
    ·rcases List.mem_cons.1 hq with rfl | hq
     ·refine ⟨by rw [lk_dropRow,if_pos rfl],?_⟩
      cases hbx:lk F.boxes q with
      | none=>exact hbx
      | some cs=>exact (h.kdis q yr cs hyr hbx).elim
     ·obtain ⟨m1,m2⟩:=hb.dd q hq
      refine ⟨?_,m2⟩
      rw [lk_dropRow]
      split
      ·rfl
      ·exact m1
   ·split at hk
    ·exact plainCase hcell hk.1 hk.2
    ·obtain ⟨more,he',hbd,hk'⟩:=catP_inv hk
     obtain ⟨G1,k1,k2,r',k3,k4,k5,_,_,kb,kown⟩:=h.share idy hyr
     obtain ⟨t1,t2,t3,t4⟩:=share_tmps F idy
     have hrow:=k2.row _ _ hcy
     have h2:=k1.rel.rows idy r' _ k3 hrow
     unfold RowOK at h2
     rw [k4,k5,he'] at h2
     refine sharedCase k1 k2 (fun x q ho hq=>kown x q ho (fun e=>hidy (by rw [←e];exact hq))) (fun q hq=>?_) h2 hbd (by rw [t3];exact hk')
     obtain ⟨m1,m2⟩:=hb.dd q hq
     refine ⟨?_,by rw [t2];exact m2⟩
     have hqi:¬idy=q:=fun e=>hidy (by rw [e];exact hq)
     unfold share
     rw [hyr]
     simp only
     split
     ·exact m1
     ·simp only [setRow,lk_cons];rw [if_neg hqi];exact m1
  ·exact hk.elim
 ·have hk2:match cellPV F cy with
   | some y=>if T.plain i.elem=true then flatRows y∧catP e.size (.list e.size rowsX) y fun r=>k (put (newRow F ⟨kind,i.elem,e.size,r⟩) o.dst (.one (.own F.next)))
    else catP e.size (.list e.size rowsX) y fun r=>k (put (newRow F ⟨kind.with false,i.elem,e.size,r⟩) o.dst (.one (.own F.next)))
   | none=>False:=by
   cases cy<;>first | exact hk | exact absurd ⟨_,rfl⟩ hcown
  split at hk2
  ·rename_i p hp
   split at hk2
   ·exact plainCase hp hk2.1 hk2.2
   ·obtain ⟨more,he',hbd,hk'⟩:=catP_inv hk2
    subst he'
    refine sharedCase h (.refl G) (fun x q ho _=>ho) hb.dd ?_ hbd hk'
    cases cy<;>simp only [cellPV] at hp<;>first | (cases hp;done) | skip
    ·injection hp with hp;subst hp;exact hcy
    ·injection hp with hp;injection hp with hp1 hp2;subst hp2
     have:a.eval y=.slice none 0 0:=hcy
     rw [this]
     exact ⟨[],.lnil .nil,by simp⟩
    ·exact absurd ⟨_,rfl⟩ hcown
  ·exact hk2.elim
theorem seq_app {t:TypeId} {x y:Operand} {i:TI} {cx cy:Cell} {k:Fr→Prop} (hT:TabOK P T) (h:St w0 G F a w) (hop:o.op=.call { callee:=.builtin .append,args:=#[x,y],argTypes:=#[t,t] }) (hi:lk T.ti t=some i) (h0:T.sz i.elem≠0)
 (ex:opnd T F t x=some (.one cx)) (ey:opnd T F t y=some (.one cy)) (hk:appS T F o.dst i cx cy k) {K:Act→World→Prop} {Q:Exit→Act→World→Prop}
 (hK:∀G' F' a' w',St w0 G' F' a' w'→k F'→K a' w'):o.wp P a w K Q:=by
 obtain ⟨e,he⟩:=sz_entry h0
 have hes:T.sz i.elem=e.size:=by simp [Tab.sz,he]
 have he0:i.elem≠0:=by intro h;rw [h,hT.zero] at he;cases he
 have ht:=(hT.ty t i hi).slice he0
 have hvx:=h.rel.eval T t x _ ex
 have hcy:RepC G w cy (a.eval y):=h.rel.eval T t y _ ey
 unfold appS at hk
 simp only [hes] at hk
 split at hk
 ·have hv:a.eval x=.slice none 0 0:=hvx
  exact seq_go (kind:=.deep) (D0:=[]) (rowsX:=[]) (xs:=[]) (N0:=[]) hT h hop ht he hv ⟨World.ownsRow_nil _ _ _ _,.nil,by simp,fun b hb=>by simp [Value.ownBlock] at hb,by simp,by simp,(by intro h;cases h),by simp⟩ hcy hk hK
 ·rename_i id
  split at hk
  ·rename_i r hr
   split at hk
   ·rename_i hc
    obtain ⟨hkd,hsz,hel⟩:=hc
    have hrow:G.row id=some (a.eval x):=hvx
    obtain ⟨hs0,rows,xs,N,hre,hl,hvv,hown,hbo,hkk⟩:=rowOK_get hkd (h.rel.rows id r _ hr hrow)
    rw [hsz] at hl hown hre
    rw [hel] at hown
    rw [hre] at hk
    have hS1:=h.drop id
    have hbx:lk F.boxes id=none:=by
     cases hbx:lk F.boxes id with
     | none=>rfl
     | some cs=>exact (h.kdis id r cs hr hbx).elim
    refine seq_go (kind:=r.kind) (D0:=[id]) hT hS1 hop ht he rfl ⟨hown,hvv,hl,fun b hb=>⟨id,by simp,hbo b hb⟩,fun z hz=>?_,fun hd=>?_,hkd,fun q hq=>?_⟩ hcy hk hK
    ·by_cases hd:r.kind=.deep
     ·rw [if_pos hd] at hkk
      exact ⟨(hkk.2 z hz).2,.inl ⟨id,by simp,(hkk.2 z hz).1⟩⟩
     ·rw [if_neg hd] at hkk
      have hs:=hkk z hz
      refine ⟨fun hb=>?_,.inr ⟨?_,hs⟩⟩
      ·have:=hbo z hb
       rw [(h.rel.stb z hs).1] at this
       cases this
      ·cases hq:r.kind with
       | deep=>exact absurd hq hd
       | flat=>rfl
       | shared=>exact absurd hq hkd
    ·rw [if_pos hd] at hkk
     exact hkk.1
    ·simp at hq
     subst hq
     exact ⟨by rw [lk_dropRow,if_pos rfl],hbx⟩
   ·exact hk.elim
  ·exact hk.elim
 ·exact hk.elim
end
end Go.Ev
/- The operations one after the other: all of them. -/
set_option linter.unusedSimpArgs false
set_option linter.unusedVariables false
namespace Go.Ev
open Go.RowKit
section
variable {P : Program} {T : Tab} {C : Orac} {o : Oper} {F : Fr} {w0 : Base} {G : Gh} {a : Act} {w : World}
theorem St.undeep (h:St w0 G F a w) {id:Nat} {r:Row} (hr:lk F.rows id=some r) (hk:r.kind=.deep):∃G',St w0 G' (setRow F id { r with kind:=.flat }) a w:=by
 cases hrow:G.row id with
 | none =>
  refine ⟨G,⟨h.rel.below,h.rel.defers,h.rel.size,h.rel.tmps,h.rel.boxes,fun i r' v e1 e2=>?_,h.rel.stb,h.rel.own,h.rel.rowv,h.rel.sub,h.rel.wr,h.rel.out⟩,h.free,fun i r' e=>?_,h.kbox,fun i r' c e e'=>?_⟩
  ·simp only [setRow,lk_cons] at e1
   split at e1
   ·rename_i hi;subst hi;rw [hrow] at e2;cases e2
   ·exact h.rel.rows i r' v e1 e2
  ·simp only [setRow,lk_cons] at e
   split at e
   ·rename_i hi;subst hi;exact h.krow id r hr
   ·exact h.krow i r' e
  ·simp only [setRow,lk_cons] at e
   split at e
   ·rename_i hi;subst hi;exact h.kdis id r c hr e'
   ·exact h.kdis i r' c e e'
 | some v =>
  have hok:=h.rel.rows id r v hr hrow
  obtain ⟨hs0,rows,xs,N,hre,hl,hvv,hown,hbo,hkk⟩:=rowOK_get (by rw [hk];intro h;cases h) hok
  rw [if_pos hk] at hkk
  let M:Nat→Bool:=fun q=>decide (q=id)
  have hbx:lk F.boxes id=none:=by
   cases hbx:lk F.boxes id with
   | none=>rfl
   | some cs=>exact (h.kdis id r cs hr hbx).elim
  have hok':RowOK (G.group w M id false v) w id { r with kind:=.flat } v:=by
   refine rowOK_mk' (by intro h;cases h) ⟨hs0,rows,xs,N,hre,hl,hvv,hown,fun b hb=>?_,?_⟩
   ·have ho:=hbo b hb
    have hlt:=(h.rel.own b id ho).2
    show grOwn G w M id false v b=some id
    simp [grOwn,Nat.not_le.2 hlt,ho,M,hb]
   ·have hne:¬(RK.flat=RK.deep):=by intro h;cases h
    simp only [hne,if_false]
    intro x hx
    obtain ⟨m1,m2⟩:=hkk.2 x hx
    have hlt:=(h.rel.own x id m1).2
    exact .inr ⟨by rw [m1];simp,by simp [grOwn,Nat.not_le.2 hlt,m1,M,m2]⟩
  obtain ⟨hfin,_⟩:=h.group (M:=M) (t:=id) (nx:=F.next) (deep:=false) (v:=v) (r:={ r with kind:=.flat }) (w':=w) rfl rfl rfl (Nat.le_refl _) none (fun b e=>by cases e) (fun _ _ _=>rfl)
   (fun q hm hq=>by simp [M] at hm;exact absurd hm hq) (fun k' cs hb=>by
    cases hm:M k' with
    | false=>rfl
    | true=>simp [M] at hm;subst hm;rw [hbx] at hb;cases hb) hbx (Nat.le_refl _) (h.krow id r hr) (.inr hrow) (.inr (by simp [M])) (h.rel.rowv id v hrow) (fun b hb=>by
    have ho:=hbo b hb
    exact ⟨(h.rel.own b id ho).2,.inr ⟨id,ho,by simp [M]⟩⟩) (fun b e=>by cases e) (by simp) hok'
  exact ⟨_,hfin⟩
theorem lk_mapR (f:Row→Row):∀(l:List (Nat×Row)) (i:Nat),lk (l.map fun x=>(x.1,f x.2)) i=(lk l i).map f
 | [],i=>rfl
 | x::l,i=>by
  rw [List.map_cons,lk_cons]
  show _=(lk ((x.1,x.2)::l) i).map f
  rw [lk_cons]
  split
  ·rfl
  ·exact lk_mapR f l i
theorem St.rowsEq {F':Fr} (h:St w0 G F a w) (ht:F'.tmps=F.tmps) (hb:F'.boxes=F.boxes) (hn:F'.next=F.next) (hnt:F'.nt=F.nt) (hp:F'.pin=F.pin) (hr:∀i,lk F'.rows i=lk F.rows i):St w0 G F' a w:=by
 refine ⟨⟨h.rel.below,h.rel.defers,by rw [hnt];exact h.rel.size,by rw [ht];exact h.rel.tmps,by rw [hb];exact h.rel.boxes,fun id r v e1 e2=>h.rel.rows id r v (by rw [←hr];exact e1) e2,h.rel.stb,h.rel.own,h.rel.rowv,h.rel.sub,h.rel.wr,by rw [hp];exact h.rel.out⟩,
  fun id hi=>h.free id (by rw [←hn];exact hi),fun id r e=>by rw [hn];exact h.krow id r (by rw [←hr];exact e),fun id r e=>by rw [hn];exact h.kbox id r (by rw [←hb];exact e),fun id r c e1 e2=>h.kdis id r c (by rw [←hr];exact e1) (by rw [←hb];exact e2)⟩
theorem St.flats (fl:List Nat):∀(l:List Nat) {G:Gh} {F:Fr},St w0 G F a w→∃G' F2,St w0 G' F2 a w∧F2.tmps=F.tmps∧F2.boxes=F.boxes∧F2.next=F.next∧F2.nt=F.nt∧F2.pin=F.pin∧(∀i,i∈l→lk F2.rows i=(lk F.rows i).map (flatOne fl))∧∀i,i∉l→lk F2.rows i=lk F.rows i∨lk F2.rows i=(lk F.rows i).map (flatOne fl)
 | [],G,F,h=>⟨G,F,h,rfl,rfl,rfl,rfl,rfl,fun i hi=>(nomatch hi),fun i _=>.inl rfl⟩
 | j::l,G,F,h=>by
  obtain ⟨G1,F1,k1,k2,k3,k4,k5,k6,k7,k8⟩:=St.flats fl l h
  have idem:∀r,flatOne fl (flatOne fl r)=flatOne fl r:=by
   intro r
   unfold flatOne
   by_cases hc:r.kind=.deep∧fl.contains r.elem=true
   ·rw [if_pos hc,if_neg];intro h';cases h'.1
   ·rw [if_neg hc,if_neg hc]
  have hj:lk F1.rows j=lk F.rows j∨lk F1.rows j=(lk F.rows j).map (flatOne fl):=by
   by_cases hm:j∈l
   ·exact .inr (k7 j hm)
   ·exact k8 j hm
  cases hr:lk F1.rows j with
  | none =>
   refine ⟨G1,F1,k1,k2,k3,k4,k5,k6,fun i hi=>?_,fun i hi=>k8 i fun hm=>hi (List.mem_cons_of_mem _ hm)⟩
   rcases List.mem_cons.1 hi with rfl | hi
   ·rcases hj with e | e
    ·rw [hr];rw [hr] at e;rw [←e];rfl
    ·exact e
   ·exact k7 i hi
  | some r =>
   have e2:(lk F.rows j).map (flatOne fl)=some (flatOne fl r):=by
    rcases hj with e | e
    ·rw [←e,hr];rfl
    ·rw [hr] at e
     rw [←e]
     cases hq:lk F.rows j with
     | none=>rw [hq] at e;cases e
     | some q=>rw [hq] at e;injection e with e;rw [e,idem]
   by_cases hc:r.kind=.deep∧fl.contains r.elem=true
   ·obtain ⟨G2,hS2⟩:=k1.undeep hr hc.1
    have hrow:∀i,lk (setRow F1 j { r with kind:=.flat }).rows i=if j=i then some { r with kind:=.flat } else lk F1.rows i:=fun i=>rfl
    refine ⟨G2,_,hS2,k2,k3,k4,k5,k6,fun i hi=>?_,fun i hi=>?_⟩
    ·rw [hrow]
     split
     ·rename_i hji;subst hji;rw [e2];unfold flatOne;rw [if_pos hc]
     ·rename_i hji
      rcases List.mem_cons.1 hi with h' | h'
      ·exact absurd h'.symm hji
      ·exact k7 i h'
    ·have hji:¬j=i:=fun e=>hi (by rw [e];simp)
     rw [hrow,if_neg hji]
     exact k8 i fun hm=>hi (List.mem_cons_of_mem _ hm)
   ·refine ⟨G1,F1,k1,k2,k3,k4,k5,k6,fun i hi=>?_,fun i hi=>k8 i fun hm=>hi (List.mem_cons_of_mem _ hm)⟩
    rcases List.mem_cons.1 hi with rfl | hi
    ·rw [hr,e2];unfold flatOne;rw [if_neg hc]
    ·exact k7 i hi
theorem lk_keys {α:Type}:∀{l:List (Nat×α)} {i:Nat},i∉l.map (·.1)→lk l i=none
 | [],_,_=>rfl
 | x::l,i,h=>by
  show lk ((x.1,x.2)::l) i=none
  rw [lk_cons,if_neg (fun e=>h (by simp [e]))]
  exact lk_keys fun hm=>h (by simp only [List.map_cons,List.mem_cons];exact .inr hm)
theorem St.flatAll (fl:List Nat) (h:St w0 G F a w):∃G',St w0 G' (Ev.flatAll fl F) a w:=by
 obtain ⟨G1,F1,k1,k2,k3,k4,k5,k6,k7,k8⟩:=St.flats fl (F.rows.map (·.1)) h
 refine ⟨G1,k1.rowsEq k2.symm k3.symm k4.symm k5.symm k6.symm fun i=>?_⟩
 show lk (F.rows.map fun x=>(x.1,flatOne fl x.2)) i=_
 rw [lk_mapR]
 by_cases hm:i∈F.rows.map (·.1)
 ·exact (k7 i hm).symm
 ·have:=lk_keys hm
  rcases k8 i hm with e | e
  ·rw [e,this];rfl
  ·exact e.symm
theorem headOf_sound {H:Fr} {wk:Bool} {fl:List Nat} {keep:List (Nat×Bool)} (h:headOf wk fl keep F=some H) (hS:St w0 G F a w):∃G',St w0 G' H a w:=by
 unfold headOf at h
 split at h
 ·exact headOf0_sound h hS.clean
 ·split at h
  ·rename_i H0 h0
   injection h with h
   subst h
   obtain ⟨G1,h1⟩:=headOf0_sound h0 hS.clean
   exact h1.flatAll fl
  ·cases h
theorem seq_nil {op:BinOp} {t t':TypeId} {x y:Operand} {i:TI} {ca:Cell} {e s:Nat} {p:PV} {neg:Bool} {k:Fr→Prop} (hT:TabOK P T) (h:St w0 G F a w) (hop:o.op=.binOp op t x y t') (hi:lk T.ti t=some i) (he:i.elem≠0)
 (ex:opnd T F 0 x=some (.one ca)) (ey:opnd T F 0 y=some (.one (.nil e s))) (hp:cellPV F ca=some p) (hn:op=.eql∧neg=false∨op=.neq∧neg=true) (hk:nilP neg p fun r=>k (put F o.dst (.one (.pv r))))
 {K:Act→World→Prop} {Q:Exit→Act→World→Prop} (hK:∀G' F' a' w',St w0 G' F' a' w'→k F'→K a' w'):o.wp P a w K Q:=by
 have hvx:=cellPV_rep h.rel hp (h.rel.eval T 0 x _ ex)
 have hvy:a.eval y=.slice none 0 0:=h.rel.eval T 0 y _ ey
 have ht:=(hT.ty t i hi).slice he
 unfold nilP at hk
 split at hk
 ·rename_i sz rows
  obtain ⟨ad,cap,hv⟩:=hvx.list_len
  have hemp:ad=none→rows=[]:=by
   intro hz
   subst hz
   obtain ⟨N,hv2,_⟩:=hvx
   rw [hv] at hv2
   cases hv2 with
   | lnil _=>rfl
  have heq:(Op.equal t (.slice ad rows.length cap) (.slice none 0 0)).run P w=.ok ad.isNone w:=by
   have e:Op.equal t (.slice ad rows.length cap) (.slice none 0 0)=Op.equalIn (9999+1) t (.slice ad rows.length cap) (.slice none 0 0):=rfl
   rw [e,Op.equalIn]
   simp only [Sem.run_bind,run_underlying ht,Result.andThen_ok]
   cases ad<;>rfl
  have hg:(eqGuard op t x y (.slice ad rows.length cap) (.slice none 0 0)).run P w=.ok () w:=by
   unfold eqGuard;split<;>simp
  have hrun:(execOp a.eval o).run P w=.ok (.value (.bool (if neg=true then !ad.isNone else ad.isNone))) w:=by
   simp only [execOp,hop,hv,hvy]
   rcases hn with ⟨rfl,rfl⟩ | ⟨rfl,rfl⟩
   ·rw [Sem.run_bind,Sem.run_bind,hg,Result.andThen_ok,show binOp .eql t (.slice ad rows.length cap) (.slice none 0 0)=(do pure (.bool (←Op.equal t (.slice ad rows.length cap) (.slice none 0 0))):Sem Value) from rfl,Sem.run_bind,heq]
    rfl
   ·rw [Sem.run_bind,Sem.run_bind,hg,Result.andThen_ok,show binOp .neq t (.slice ad rows.length cap) (.slice none 0 0)=(do pure (.bool (!(←Op.equal t (.slice ad rows.length cap) (.slice none 0 0)))):Sem Value) from rfl,Sem.run_bind,heq]
    rfl
  refine wp_value hrun ?_
  cases ad with
  | none =>
   refine hK _ _ _ _ (h.put o.dst (tv:=.one (.pv (.bool (!neg)))) ?_) (hk.2 (hemp rfl))
   have:(Value.bool (if neg=true then !(none:Option Addr).isNone else (none:Option Addr).isNone))=.bool (!neg):=by cases neg<;>rfl
   rw [this]
   exact RepS.bool
  | some ad =>
   refine hK _ _ _ _ (h.put o.dst (tv:=.one (.pv (.bool neg))) ?_) hk.1
   have:(Value.bool (if neg=true then !(some ad).isNone else (some ad).isNone))=.bool neg:=by cases neg<;>rfl
   rw [this]
   exact RepS.bool
 ·exact hk.elim
theorem seq_cutM {t:TypeId} {x:Operand} {hi:Option Operand} {u:Option Nat} {rows:List (List PV)} {id:Nat} {r:Row} {k:Fr→Prop} (hT:TabOK P T) (h:St w0 G F a w) (hop:o.op=.slice t x none hi none) (h0:T.esz t≠0) (ex:opnd T F 0 x=some (.one (.own id))) (hr:lk F.rows id=some r)
 (hkd:r.kind≠.shared) (hsz:r.sz=T.esz t) (hel:r.elem=T.el t) (he:r.e=.list (T.esz t) rows) (hhi:NatOp T F hi u) (h2:u.getD rows.length≤rows.length)
 (hk:k (put (newRow (dropRow F id) ⟨r.kind,r.elem,r.sz,.list (T.esz t) (rows.take (u.getD rows.length))⟩) o.dst (.one (.own F.next)))) {K:Act→World→Prop} {Q:Exit→Act→World→Prop}
 (hK:∀G' F' a' w',St w0 G' F' a' w'→k F'→K a' w'):o.wp P a w K Q:=by
 have hrow:G.row id=some (a.eval x):=h.rel.eval T 0 x _ ex
 obtain ⟨hs0,rows',xs,N,hre,hl,hvv,hown,hbo,hkk⟩:=rowOK_get hkd (h.rel.rows id r _ hr hrow)
 rw [he] at hre
 injection hre with _ hre
 subst hre
 obtain ⟨ti,tj,q1,q2,q3,q4⟩:=hT.esz (Nat.pos_of_ne_zero h0)
 have hd:=elem_of q4
 have hel2:P.elem t=ti.elem:=by simp [Program.elem,q4]
 have hszr:(sizeOf (P.elem t)).run P w=.ok (T.esz t) w:=by rw [hel2,run_sizeOf' (hT.ty _ _ q2),q3]
 generalize hH:u.getD rows.length=H at h2 hk
 have hS1:=h.drop id
 have hbx:lk F.boxes id=none:=by
  cases hbx:lk F.boxes id with
  | none=>rfl
  | some cs=>exact (h.kdis id r cs hr hbx).elim
 have hvh:=hhi.v (X:=fun _=>True) (.refl _ _) (fun _ _=>trivial) h.rel
 have hval:∃v',(Instr.slice t (a.eval x) none (hi.map a.eval) none).run P w=.ok v' w∧w.ownsRow 0 r.elem r.sz v' (rows.take H).length (xs.take (H*r.sz))∧v'.ownBlock=(a.eval x).ownBlock∧∃ad l c,v'=.slice ad l c:=by
  have hlo:NatV (none:Option Value) none:=by simp [NatV]
  have hlen:(rows.take H).length=H:=by simp;omega
  rw [hlen]
  have hxl:(xs.take (H*r.sz)).length=H*r.sz:=by
   rw [List.length_take,hown.1,Nat.min_eq_left]
   exact Nat.mul_le_mul_right _ h2
  rcases hown.2 with ⟨hv,hn0⟩ | ⟨g,cap,cur,hv,hb,hg,hc1,hc2,hc3,hc4⟩
  ·have hHz:H=0:=by omega
   subst hHz
   refine ⟨.slice none 0 0,?_,⟨by simp,.inl ⟨rfl,rfl⟩⟩,by rw [hv],_,_,_,rfl⟩
   rw [hv,run_cut hd hlo hvh (by rw [hn0] at hH;rw [hH];exact Nat.le_refl _) (by rw [hn0] at hH;rw [hH];exact Nat.le_refl _) (fun _=>Nat.zero_le _),hszr]
   rw [hn0] at hH
   simp only [Option.getD_none,hH]
   rfl
  ·refine ⟨.slice (some ⟨g,0,none⟩) H cap,?_,⟨hxl,.inr ⟨g,cap,cur,rfl,hb,hg,by omega,hc2,hc3,?_⟩⟩,by rw [hv];rfl,_,_,_,rfl⟩
   ·rw [hv,run_cut hd hlo hvh (by rw [hH];exact Nat.zero_le _) (by rw [hH];exact h2) (fun _=>hc1),hszr,hH]
    simp [sliced,add_at]
   ·rw [←hc4,List.take_take,Nat.min_eq_left (Nat.mul_le_mul_right _ h2)]
 obtain ⟨v',k1,k2,k3,k5⟩:=hval
 have hvals:∃N',RepVals w (rows.take H).flatten (xs.take (H*r.sz)) N'∧(∀z∈N',z∈N)∧(N.Nodup→N'.Nodup):=by
  have e:rows.flatten=(rows.take H).flatten++(rows.drop H).flatten:=by rw [←List.flatten_append,List.take_append_drop]
  rw [e] at hvv
  obtain ⟨v1,v2,N1,N2,e1,e2,m1,m2⟩:=RepVals.split _ _ hvv
  have hl1:v1.length=H*r.sz:=by
   rw [←m1.len,flatten_len (sz:=r.sz) (fun q hq=>hl q (List.mem_of_mem_take hq))]
   rw [List.length_take,Nat.min_eq_left h2]
  refine ⟨N1,?_,fun z hz=>by rw [e2];simp [hz],fun hn=>by rw [e2] at hn;exact (List.nodup_append.1 hn).1⟩
  rw [e1,List.take_left' hl1]
  exact m1
 obtain ⟨N',n1,n2,n3⟩:=hvals
 let M:Nat→Bool:=fun q=>[id].contains q
 have hM:∀q,M q=true↔q=id:=fun q=>by simp [M]
 let dk:Bool:=decide (r.kind=.deep)
 have hbs:∀b,v'.ownBlock=some b→G.own b=some id∧b<w.heap.size:=by
  intro b hb
  rw [k3] at hb
  have ho:=hbo b hb
  exact ⟨ho,(h.rel.own b id ho).2⟩
 have hNb:∀z∈N',z<w.heap.size:=fun z hz=>n1.bound z hz
 have hok:RowOK (G.group w M F.next dk v') w F.next ⟨r.kind,r.elem,r.sz,.list (T.esz t) (rows.take H)⟩ v':=by
  refine rowOK_mk' hkd ⟨hs0,rows.take H,xs.take (H*r.sz),N',by rw [hsz],fun q hq=>hl q (List.mem_of_mem_take hq),n1,k2,fun b hb=>?_,?_⟩
  ·obtain ⟨ho,hlt⟩:=hbs b hb
   show grOwn G w M F.next dk v' b=some F.next
   simp [grOwn,Nat.not_le.2 hlt,ho,(hM id).2 rfl,hb]
  ·by_cases hdp:r.kind=.deep
   ·have hdk:dk=true:=by simp [dk,hdp]
    rw [if_pos hdp] at hkk
    simp only [hdp,if_true]
    refine ⟨n3 hkk.1,fun z hz=>⟨?_,?_⟩⟩
    ·have ho:=(hkk.2 z (n2 z hz)).1
     show grOwn G w M F.next dk v' z=some F.next
     simp [grOwn,Nat.not_le.2 (hNb z hz),ho,(hM id).2 rfl,hdk]
    ·rw [k3];exact (hkk.2 z (n2 z hz)).2
   ·rw [if_neg hdp] at hkk
    simp only [hdp,if_false]
    intro z hz
    exact .inl (hkk z (n2 z hz))
 have hfree:=h.free F.next (Nat.le_refl _)
 have hbn:lk (dropRow F id).boxes F.next=none:=by
  show lk F.boxes F.next=none
  cases hb:lk F.boxes F.next with
  | none=>rfl
  | some c=>have:=h.kbox _ c hb;omega
 obtain ⟨hfin,_⟩:=hS1.group (M:=M) (t:=F.next) (nx:=F.next+1) (deep:=dk) (v:=v') (r:=⟨r.kind,r.elem,r.sz,.list (T.esz t) (rows.take H)⟩) (w':=w) rfl rfl rfl (Nat.le_refl _) none (fun b e=>by cases e)
  (fun x h1 h2=>rfl) (fun q hm _=>by rw [(hM q).1 hm,lk_dropRow,if_pos rfl]) (fun k' cs hb=>by
   cases hm:M k' with
   | false=>rfl
   | true =>
    have hb':lk F.boxes k'=some cs:=hb
    rw [(hM k').1 hm,hbx] at hb';cases hb') hbn (Nat.le_succ _) (Nat.lt_succ_self _) (.inl hfree.1) (.inl (Nat.le_refl _)) k5 (fun b hb=>⟨(hbs b hb).2,.inr ⟨id,(hbs b hb).1,(hM id).2 rfl⟩⟩) (fun b e=>by cases e) hkd hok
 refine wp_value (v:=v') (w':=w) ?_ (hK _ _ _ _ (St.put hfin o.dst (tv:=.one (.own F.next)) ?_) hk)
 ·simp only [execOp,hop,Option.map_none]
  rw [Sem.run_bind,run_sliceAt_slice _ _ _ _ _ _ hd,k1]
  rfl
 ·show (if F.next=F.next then some v' else _)=some v'
  rw [if_pos rfl]
theorem run_appendZ {t u ty e:TypeId} {i:TypeInfo} {z:Value} {q:IntKind} (ht:P.underlying t=some (.slice e)) (hu:P.underlying u=some (.int q)) (hi:P.info? e=some i) (hz:i.zero=some z) {k:IntKind} {n:Nat} (h0:0<n) (h63:n<1073741824) (h48:n*i.bytes≤281474976710656) (hsz:0<i.size) :
 (Builtin.append_ #[t,u] ty #[.slice none 0 0,.int k (n:Int)]).run P w =
  .ok (.slice (some ⟨w.heap.size,0,none⟩) n (grownCap w n 0 e)) (w.drew.alloc (.cells (Builtin.zeroCells z.cells n++Builtin.zeroCells z.cells (grownCap w n 0 e-n)) e)):=by
 have hn:n≠0:=by omega
 have hw:IntKind.i64.wrap (n:Int)=(n:Int):=by rw [IntKind.wrap_i64];omega
 have h1:¬((n:Int)<0):=by omega
 have h63':¬(9223372036854775807<(n:Int)):=by omega
 have h48':¬(281474976710656<Builtin.nextslicecap n 0*i.bytes):=by rw [nextslicecap_zero h0];omega
 have h48i:¬((281474976710656:Int)<(n:Int)*(i.bytes:Int)):=by
  have:((n*i.bytes:Nat):Int)≤281474976710656:=by omega
  rw [Int.natCast_mul] at this
  omega
 have hns:n*i.size≠0:=Nat.ne_of_gt (Nat.mul_pos h0 hsz)
 simp [Builtin.append_,run_underlying ht,run_underlying hu,sizeOf,typeInfo,zeroValue,hi,hz,asInt,asIntOf,hw,h1,hn,h63',h48',h48i,hns,Nat.ne_of_gt hsz,Question.forced,run_firstCells_none,Go.newRow,grownCap]
theorem run_appendZ0 {t u ty e:TypeId} {i:TypeInfo} {q:IntKind} (ht:P.underlying t=some (.slice e)) (hu:P.underlying u=some (.int q)) (hi:P.info? e=some i) {k:IntKind} :
 (Builtin.append_ #[t,u] ty #[.slice none 0 0,.int k 0]).run P w=.ok (.slice none 0 0) w:=by
 have hw:IntKind.i64.wrap 0=0:=by decide
 simp [Builtin.append_,run_underlying ht,run_underlying hu,sizeOf,typeInfo,hi,asInt,asIntOf,hw]
theorem seq_appZ {t u:TypeId} {x y:Operand} {i j e:TI} {z:List PV} {kk:IntKind} {c:Int} {en:TypeId} {es:Nat} {cn:Cell} {k:Fr→Prop} (hT:TabOK P T) (hS:St w0 G F a w) (hop:o.op=.call { callee:=.builtin .append,args:=#[x,y],argTypes:=#[t,u] })
 (hi:lk T.ti t=some i) (hj:lk T.ti u=some j) (hjk:j.ik=some .i64) (he:lk T.ti i.elem=some e) (hz:cellsPV F e.zero=some z) (hl:e.zero.length=e.size)
 (ex:opnd T F t x=some (.one (.nil en es))) (ey:opnd T F 0 y=some (.one cn)) (hn:scalPV cn=some (.int kk c)) (h0:0≤c) (hc:c.toNat<1073741824)
 (hk:k (put (newRow F ⟨.deep,i.elem,e.size,.list e.size (List.replicate c.toNat z)⟩) o.dst (.one (.own F.next)))) {K:Act→World→Prop} {Q:Exit→Act→World→Prop}
 (hK:∀G' F' a' w',St w0 G' F' a' w'→k F'→K a' w'):o.wp P a w K Q:=by
 have hx:a.eval x=.slice none 0 0:=hS.rel.eval T t x _ ex
 have hy:=(scalPV_rep hn (hS.rel.eval T 0 y _ ey)).int_inv
 have he0:i.elem≠0:=by intro h;rw [h,hT.zero] at he;cases he
 have hty:=hT.ty _ _ he
 obtain ⟨inf,q1,q2,q3,zz,q4,q5⟩:=hty.info
 have hu:=(hT.ty _ _ hj).ik _ hjk
 have ht:=(hT.ty t i hi).slice he0
 have hcast:((c.toNat:Nat):Int)=c:=by omega
 have hbase:(execOp a.eval o).run P w=((do pure (Next.value (←Builtin.append_ #[t,u] o.type #[.slice none 0 0,.int kk c])):Sem Next)).run P w:=by
  simp [execOp,hop,resolve,invoke,builtin,hx,hy]
 by_cases hc0:c.toNat=0
 ·have hcz:c=0:=by omega
  subst hcz
  obtain ⟨G1,hS1,_,_,_,_,_,hrep⟩:=headC_ok (F:=F) (weak:=false) (c:=.nil i.elem e.size) (c':=.own F.next) (F':=newRow F ⟨.deep,i.elem,e.size,.list e.size []⟩) (by
   simp [headC,Nat.ne_of_gt hty.size]) hS
  refine wp_value (v:=.slice none 0 0) (w':=w) (by rw [hbase,Sem.run_bind,run_appendZ0 ht hu q1];rfl) (hK _ _ _ _ (St.put hS1 o.dst (tv:=.one (.own F.next)) (hrep _ rfl)) hk)
 ·have hzl:zz.cells.size=e.size:=by have:=(ZeroOK.rep (G:=G) (w:=w) q5).len;rw [hl] at this;simpa using this.symm
  have hmul:c.toNat*inf.bytes≤281474976710656:=by
   have:=Nat.mul_le_mul (Nat.le_of_lt hc) q3
   omega
  refine hS.adds (A:=⟨[(F.next,⟨.deep,i.elem,e.size,.list e.size (List.replicate c.toNat z)⟩)],[],1⟩) (tv:=.one (.own F.next)) ?_ (aok_row F _) fun G' a' w' hS'=>hK G' _ a' w' hS' hk
  intro w0 G F2 a w K Q hL hR hF hK
  have hx:a.eval x=.slice none 0 0:=hR.eval T t x _ (opnd_le hL (fun t ht=>by simp [looks,hop,Op.operands,Call.operands,ht]) ex)
  have hy:=(scalPV_rep hn (hR.eval T 0 y _ (opnd_le hL (fun t ht=>by simp [looks,hop,Op.operands,Call.operands,ht]) ey))).int_inv
  have hr:=run_appendZ (P:=P) (w:=w) (ty:=o.type) (k:=kk) ht hu q1 q4 (n:=c.toNat) (by omega) hc hmul (by rw [q2];exact hty.size)
  rw [hcast] at hr
  have hge:=grownCap_ge w c.toNat 0 i.elem
  have hcm:grownCap w c.toNat 0 i.elem≤maxLen:=grownCap_le_maxLen w c.toNat 0 i.elem (by simp [maxLen];omega)
  let w':=w.drew.alloc (.cells (Builtin.zeroCells zz.cells c.toNat++Builtin.zeroCells zz.cells (grownCap w c.toNat 0 i.elem-c.toNat)) i.elem)
  have hB:Below w.heap.size w w':=⟨rfl,rfl,rfl,by simp [w'],fun k hk=>heap_alloc_old w.drew _ k hk⟩
  have hzr:RepVals w' z zz.cells.toList []:=cellsPV_zero (F:=F) q5 hz
  have hzl':z.length=e.size:=by have:=hzr.len;simp at this;omega
  have hrep:=madeCells_rep hzr c.toNat
  rw [hzl] at hrep
  have hmz:(Builtin.zeroCells zz.cells c.toNat).toList=(madeCells zz.cells (c.toNat*e.size)).toList:=by simp [Builtin.zeroCells,madeCells,hzl]
  obtain ⟨k1,k2⟩:=hR.newRow1 hF (v:=.slice (some ⟨w.heap.size,0,none⟩) c.toNat (grownCap w c.toNat 0 i.elem)) (r:=⟨.deep,i.elem,e.size,.list e.size (List.replicate c.toNat z)⟩) hB (by simp [w']) ⟨_,_,_,rfl⟩ rfl (by simp) (by
   refine ⟨hty.size,List.replicate c.toNat z,_,[],rfl,fun q hq=>by rw [List.eq_of_mem_replicate hq,hzl'],hrep,?_,?_,?_⟩
   ·rw [List.length_replicate,←hmz]
    refine ⟨by simp [Builtin.zeroCells,hzl],.inr ⟨w.heap.size,_,_,rfl,Nat.zero_le _,heap_alloc_new w.drew _,hge,hcm,?_,?_⟩⟩
    ·simp only [Array.size_append,size_zeroCells,hzl,←Nat.add_mul]
     congr 1
     omega
    ·simp only [Array.toList_append]
     have hlen:c.toNat*e.size=(Builtin.zeroCells zz.cells c.toNat).toList.length:=by simp [Builtin.zeroCells,hzl]
     rw [hlen]
     exact List.take_left
   ·intro b hb
    have:w.heap.size=b:=by simpa [Value.ownBlock] using hb
    subst this
    show (if w.heap.size=w.heap.size then _ else _)=_
    rw [if_pos rfl]
   ·simp)
  refine wp_value (v:=.slice (some ⟨w.heap.size,0,none⟩) c.toNat (grownCap w c.toNat 0 i.elem)) (w':=w') ?_ (hK _ _ _ k1 ?_ k2)
  ·have hbase:(execOp a.eval o).run P w=((do pure (Next.value (←Builtin.append_ #[t,u] o.type #[.slice none 0 0,.int kk c])):Sem Next)).run P w:=by
    simp [execOp,hop,resolve,invoke,builtin,hx,hy]
   rw [hbase,Sem.run_bind,hr]
   rfl
  ·show (if F.next=F.next then _ else _)=_
   rw [if_pos rfl]
theorem enumT_rep {G:Gh} {w:World}:∀{vs:List TV} {us:List Value} {i t:Nat} {tv:TV},RepT.RepTs G w vs us→lk (enumT i vs) t=some tv→∃v,i≤t∧us[t-i]? = some v∧RepT G w tv v
 | [],us,i,t,tv,_,h=>by simp [enumT,lk] at h
 | x::vs,us,i,t,tv,⟨v,r,e,h1,h2⟩,h=>by
  subst e
  simp only [enumT,lk_cons] at h
  split at h
  ·rename_i hit
   injection h with h
   subst h;subst hit
   exact ⟨v,Nat.le_refl _,by simp,h1⟩
  ·obtain ⟨u,k1,k2,k3⟩:=enumT_rep h2 h
   refine ⟨u,by omega,?_,k3⟩
   rw [show t-i=(t-(i+1))+1 by omega]
   simpa using k2
theorem opnds_rep (hR:Rel w0 G F a w):∀{xs:List Operand} {ts:List TypeId} {vs:List TV},opnds T F xs ts=some vs→RepT.RepTs G w vs (xs.map a.eval)
 | [],_,vs,h=>by injection h with h;subst h;rfl
 | x::xs,ts,vs,h=>by
  simp only [opnds] at h
  split at h
  ·rename_i v r e1 e2
   injection h with h
   subst h
   exact ⟨_,_,rfl,hR.eval T _ x _ e1,opnds_rep hR e2⟩
  ·cases h
theorem repTs_len {G:Gh} {w:World}:∀{vs:List TV} {us:List Value},RepT.RepTs G w vs us→vs.length=us.length
 | [],us,h=>by have:us=[]:=h;subst this;rfl
 | _::_,_,⟨_,_,e,_,h⟩=>by subst e;simp [repTs_len h]
theorem repTs_append {G:Gh} {w:World}:∀{vs vs':List TV} {us us':List Value},RepT.RepTs G w vs us→RepT.RepTs G w vs' us'→RepT.RepTs G w (vs++vs') (us++us')
 | [],_,us,_,h,k=>by have:us=[]:=h;subst this;exact k
 | _::_,_,_,_,⟨v,r,e,h1,h2⟩,k=>by subst e;exact ⟨v,_,rfl,h1,repTs_append h2 k⟩
theorem caps_repT {G:Gh} {w:World}:∀{caps:List Cap} {us:List Value},RepCaps G w caps us→RepT.RepTs G w (caps.map capTV) us
 | [],us,h=>h
 | c::caps,us,⟨v,r,e,h1,h2⟩=>by
  refine ⟨v,r,e,?_,caps_repT h2⟩
  cases c with
  | box k=>exact h1
  | ro c=>cases c with
   | cells ps=>exact h1
   | fn f q=>exact h1
theorem lk_hide (pin:List Nat):∀{l:List (Nat×TV)} {t:Nat} {tv:TV},lk (hideTs pin l) t=some tv→∃tv',lk l t=some tv'∧tv=hideTV pin tv'
 | [],t,tv,h=>by cases h
 | x::l,t,tv,h=>by
  have h':lk ((x.1,hideTV pin x.2)::hideTs pin l) t=some tv:=h
  rw [lk_cons] at h'
  show ∃tv',lk ((x.1,x.2)::l) t=some tv'∧_
  rw [lk_cons]
  split at h'
  ·injection h' with h';exact ⟨_,by rw [if_pos (by assumption)],h'.symm⟩
  ·rw [if_neg (by assumption)];exact lk_hide pin h'
theorem safe_mono {p q:List Nat} (h:∀k,p.contains k=true→q.contains k=true):∀{tv:TV},tvSafe p tv=true→tvSafe q tv=true:=by
 have hcap:∀c:Cap,capSafe p c=true→capSafe q c=true:=fun c hc=>by cases c with
  | box k=>exact h k hc
  | ro _=>rfl
 have hcell:∀c:Cell,cellSafe p c=true→cellSafe q c=true:=fun c hc=>by
  cases c with
  | ptr k o=>exact h k hc
  | fn f caps=>exact List.all_eq_true.2 fun x hx=>hcap x (List.all_eq_true.1 hc x hx)
  | own _=>cases hc
  | optr _ _ _ _=>cases hc
  | _=>rfl
 intro tv hv
 cases tv with
 | one c=>exact hcell c hv
 | agg cs=>exact List.all_eq_true.2 fun x hx=>hcell x (List.all_eq_true.1 hv x hx)
 | tup _=>cases hv
 | undef=>rfl
 | mt=>rfl
theorem addK_mono {α:Type}:∀{r:List (Nat×α)} {l:List Nat} {k:Nat},l.contains k=true→(addK l r).contains k=true
 | [],l,k,h=>h
 | x::r,l,k,h=>by
  simp only [addK]
  split
  ·exact addK_mono h
  ·exact addK_mono (by simp only [List.contains_cons,Bool.or_eq_true];exact .inr h)
theorem hideC_safe (p:List Nat) (c:Cell):cellSafe p (hideC p c)=true:=by
 unfold hideC
 split
 ·assumption
 ·rfl
theorem hideTV_safe (p:List Nat) (tv:TV):tvSafe p (hideTV p tv)=true:=by
 cases tv with
 | one c=>exact hideC_safe p c
 | agg cs =>
  refine List.all_eq_true.2 fun x hx=>?_
  obtain ⟨c,_,rfl⟩:=List.mem_map.1 hx
  exact hideC_safe p c
 | tup _=>rfl
 | undef=>rfl
 | mt=>rfl
theorem hideC_rep (hR:Rel w0 G F a w) {p:List Nat} {c:Cell} {v:Value} (h:RepC G w c v):RepC G w (hideC p c) v:=by
 unfold hideC
 split
 ·exact h
 ·exact RepC.one hR h
theorem hideCs_rep (hR:Rel w0 G F a w) {p:List Nat}:∀{cs:List Cell} {vs:List Value},RepCs G w cs vs→RepCs G w (cs.map (hideC p)) vs
 | [],_,h=>h
 | _::_,_,⟨v,r,e,h1,h2⟩=>⟨v,r,e,hideC_rep hR h1,hideCs_rep hR h2⟩
theorem hideTV_rep (hR:Rel w0 G F a w) {p:List Nat} {tv:TV} {v:Value} (h:RepT G w tv v):RepT G w (hideTV p tv) v:=by
 cases tv with
 | one c=>exact hideC_rep hR h
 | agg cs=>obtain ⟨vs,e,h⟩:=h;exact ⟨vs,e,hideCs_rep hR h⟩
 | tup ts=>obtain ⟨vs,e,_⟩:=h;intro b hb;rw [e] at hb;cases hb
 | undef=>exact h
 | mt=>exact h
theorem seq_inl {c:Call} {x:Operand} {f:FuncId} {caps:List Cap} {nt:Nat} {k:Fr→Prop} (hI:InlOK P C.inl) (hS:St w0 G F a w) (hop:o.op=.call c) (hcal:c.callee=.value x) (ex:opnd T F 0 x=some (.one (.fn f caps)))
 (h:inlK C T f nt caps c.args.toList c.argTypes.toList F o.dst k) {K:Act→World→Prop} {Q:Exit→Act→World→Prop}
 (hK:∀G' F' a' w',St w0 G' F' a' w'→k F'→K a' w'):o.wp P a w K Q:=by
 unfold inlK at h
 split at h
 ·rename_i vs hvs
  split at h
  ·rename_i hle
   have hR:=hS.rel
   obtain ⟨⟨fn,hf,hn,hb⟩,hcall⟩:=hI _ _ _ h
   obtain ⟨us,h1,h2⟩:=hR.eval T 0 x _ ex
   have hrun:=run_call_value (w:=w) hop hcal h1 hf hn hb
   have hrep:=repTs_append (opnds_rep hR hvs) (caps_repT h2)
   have hlen:=repTs_len hrep
   let w1:Base:={ w0 with outer:=fun tv v=>(∃t tv',lk F.tmps t=some tv'∧a.tmps[t]? = some v∧tv=hideTV (pinsOf F) tv')∨w0.outer tv v }
   have hnt:(c.args.toList.map a.eval++us).length≤nt:=by
    rw [←hlen];simpa using hle
   have hin:St w1 G (inlIn F nt (vs++caps.map capTV)) { tmps:=(c.args.toList.map a.eval++us).toArray++Array.replicate (nt-(c.args.toList.map a.eval++us).toArray.size) undef,defers:=[] } w:=by
    refine ⟨⟨hR.below,rfl,?_,fun t tv e=>?_,hR.boxes,hR.rows,hR.stb,hR.own,hR.rowv,hR.sub,hR.wr,fun tv v ho=>?_⟩,hS.free,hS.krow,hS.kbox,hS.kdis⟩
    ·simp only [inlIn,Array.size_append,Array.size_replicate,List.size_toArray]
     omega
    ·obtain ⟨v,k1,k2,k3⟩:=enumT_rep hrep e
     refine ⟨v,?_,k3⟩
     have hlt:t<(c.args.toList.map a.eval++us).length:=by
      rcases Nat.lt_or_ge t (c.args.toList.map a.eval++us).length with h' | h'
      ·exact h'
      ·rw [Nat.sub_zero,List.getElem?_eq_none h'] at k2;cases k2
     rw [Array.getElem?_append_left (by simpa using hlt)]
     simpa using k2
    ·rcases ho with ⟨t,tv',e1,e2,rfl⟩ | ho
     ·obtain ⟨u,m1,m2⟩:=hR.tmps t tv' e1
      rw [e2] at m1
      injection m1 with m1
      subst m1
      exact ⟨hideTV_rep hR m2,hideTV_safe _ _⟩
     ·have:=hR.out tv v ho
      exact ⟨this.1,safe_mono (fun k hk=>addK_mono hk) this.2⟩
   unfold Oper.wp
   rw [hrun]
   refine (hcall w1 G _ w hnt hin).mono fun e w' ⟨v,he,tv,F',G',a',hS',hv,hk⟩=>?_
   subst he
   have hR':=hS'.rel
   have hfin:St w0 G' (inlOut F F') a w':=by
    refine ⟨⟨hR'.below,hR.defers,hR.size,fun t tv e=>?_,hR'.boxes,hR'.rows,hR'.stb,hR'.own,hR'.rowv,hR'.sub,hR'.wr,fun tv v ho=>⟨(hR'.out tv v (.inr ho)).1,(hR.out tv v ho).2⟩⟩,hS'.free,hS'.krow,hS'.kbox,hS'.kdis⟩
    obtain ⟨tv',e1,e2⟩:=lk_hide _ e
    obtain ⟨u,m1,m2⟩:=hR.tmps t tv' e1
    exact ⟨u,m1,(hR'.out tv u (.inl ⟨t,tv',e1,m1,e2⟩)).1⟩
   exact hK _ _ _ _ (hfin.put o.dst hv) hk
  ·exact h.elim
 ·exact h.elim
theorem opS_seq (hT:TabOK P T) (hC:OracOK P T C) {k:Fr→Prop} (h:opS C T o F k) (hok:seqOK T F o=true) (hS:St w0 G F a w) {K:Act→World→Prop} {Q:Exit→Act→World→Prop}
 (hK:∀G' F' a' w',St w0 G' F' a' w'→k F'→K a' w'):o.wp P a w K Q:=by
 by_cases hadd:addsOnly T F o=true
 ·obtain ⟨A,tv,h1,h2,h3⟩:=opS_adds hT hC h hadd
  exact hS.adds h2 h3 fun G' a' w' hS'=>hK G' _ a' w' hS' h1
 ·unfold seqOK at hok
  simp only [hadd,Bool.false_or] at hok
  split at hok
  ·rename_i t x y hop
   unfold opS at h
   rw [hop] at h
   simp only at h
   split at hok
   ·rename_i b off ex
    split at h
    ·rename_i i b' off' v hi ex' ey
     split at h
     ·rename_i cs ns hb hn
      split at h
      ·rename_i hc
       exact seq_storeBox hT hS hop hi ex' ey hb hn hc.1 hc.2 fun G' a' w' hS'=>hK G' _ a' w' hS' h
      ·exact h.elim
     ·exact h.elim
    ·rename_i i id sz j off' v hi ex' ey
     rw [ex] at ex';cases ex'
    ·exact h.elim
   ·rename_i id sz j off ex
    split at h
    ·rename_i i b' off' v hi ex' ey
     rw [ex] at ex';cases ex'
    ·rename_i i id' sz' j' off' v hi ex' ey
     split at h
     ·rename_i ns hn
      split at h
      ·rename_i hc
       refine seq_storeO hT hS hop hi ex' ey hn hc.1 (fun hm=>?_) h hK
       have:=List.all_eq_true.1 hc.2.2 _ hm
       simp at this
      ·exact h.elim
     ·exact h.elim
    ·exact h.elim
   ·cases hok
  ·rename_i t x lo hi mx hop
   unfold opS at h
   rw [hop] at h
   simp only at h
   split at hok
   ·rename_i id ex
    split at h
    ·rename_i c ex'
     rw [ex] at ex'
     cases ex'
     obtain ⟨l,h,hl⟩:=natO_inv h
     obtain ⟨u,h,hu⟩:=natO_inv h
     simp only at h
     split at h
     ·rename_i r hr
      split at h
      ·exact h.elim
      rename_i h0
      split at h
      ·rename_i hmv
       split at h
       ·rename_i hc
        unfold cutP at h
        split at h
        ·rename_i s rows he
         obtain ⟨hs,h1,h2,h3⟩:=h
         subst hs
         have hlo:lo=none:=by
          cases lo with
          | none=>rfl
          | some _=>simp at hmv
         subst hlo
         exact seq_cutM hT hS hop h0 ex hr hc.1 hc.2.1 hc.2.2 he hu h2 h3 hK
        ·exact h.elim
       ·exact h.elim
      ·unfold cutP at h
       split at h
       ·rename_i s rows he
        obtain ⟨hs,h1,h2,h3⟩:=h
        subst hs
        exact seq_cutO hT hS hop h0 ex hr he hl hu h1 h2 fun G' a' w' hS'=>hK G' _ a' w' hS' h3
       ·exact h.elim
     ·exact h.elim
    ·exact h.elim
   ·cases hok
  ·rename_i c hop
   split at hok
   ·rename_i x hcal
    unfold opS at h
    rw [hop] at h
    simp only [hcal] at h
    split at h
    ·rename_i f caps ex
     split at h
     ·exact seq_inl hC.inl hS hop hcal ex h hK
     split at h
     ·rename_i hmk
      unfold isMkF at hmk
      split at hmk
      case h_2=>cases hmk
      rename_i sg hsg
      unfold markK at h
      split at h
      ·rename_i px py t u hl1 hl2
       split at h
       ·rename_i v m i e1 e2 e3
        split at h
        ·rename_i cs hcs
         split at h
         ·rename_i ps hps
          split at h
          case isFalse=>exact h.elim
          rename_i hd
          obtain ⟨hf,out,h1,h2⟩:=h
          exact seq_mark hT hS hop hcal ex hl1 e1 e2 e3 hcs hps hd hf ((hC.call f sg hsg _ _ h1).2 hmk) h2 hK
         ·exact h.elim
        ·exact h.elim
       ·exact h.elim
      ·exact h.elim
     rename_i hnm
     split at h
     ·rename_i q hq
      unfold callK at h
      split at h
      ·rename_i sg hsg
       have hnm':isMk sg=false:=by unfold isMkF at hnm;rw [hsg] at hnm;simpa using hnm
       split at h
       ·rename_i hsh
        split at h
        ·rename_i av hav
         obtain ⟨out,h1,h2⟩:=h
         exact hS.adds (A:=⟨inRows F.next out 0 (allCks sg),[],(allCks sg).length⟩) (ad_call hop hcal ex hq hav ((hC.call f sg hsg _ _ h1).1 hnm') hsh) (aok_call F out _) fun G' a' w' hS'=>hK G' _ a' w' hS' h2
        ·exact h.elim
       ·split at h
        ·rename_i hcp
         split at h
         ·rename_i F1 hF1
          split at h
          ·rename_i has
           split at h
           ·rename_i av hav
            obtain ⟨out,h1,h2⟩:=h
            obtain ⟨⟨G1,hS1⟩,htm⟩:=hS.shareArgs hF1
            have ex1:opnd T F1 0 x=some (.one (.fn f caps)):=by rw [opnd_tmps htm];exact ex
            have hcp1:cellSh F1 (.fn f caps)=true:=hcp
            have hq1:capsPV F1 caps=some q:=by
             have key:∀(caps:List Cap) (q:List RO),(caps.all fun c=>match c with | .ro _=>true | .box _=>false)=true→capsPV F caps=some q→capsPV F1 caps=some q:=by
              intro caps
              induction caps with
              | nil=>intro q _ h;exact h
              | cons c caps ih =>
               intro q hs h
               cases c with
               | box k=>simp at hs
               | ro cells =>
                simp only [capsPV] at h ⊢
                split at h
                ·rename_i q' e;rw [ih q' (by simpa using hs) e];exact h
                ·cases h
             exact key caps q hcp hq
            exact hS1.adds (A:=⟨inRows F1.next out 0 (allCks sg),[],(allCks sg).length⟩) (ad_call hop hcal ex1 hq1 hav ((hC.call f sg hsg _ _ h1).1 hnm') (.inr ⟨has,hcp1⟩)) (aok_call F1 out _) fun G' a' w' hS'=>hK G' _ a' w' hS' h2
           ·exact h.elim
          ·exact h.elim
         ·exact h.elim
        ·exact h.elim
      ·exact h.elim
     ·exact h.elim
    ·exact h.elim
   ·rename_i hcal
    obtain ⟨cal,args,ats⟩:=c
    simp only at hcal
    subst hcal
    unfold opS at h
    rw [hop] at h
    simp only at h
    split at h
    ·rename_i x y t u e1 e2
     have e3:args=#[x,y]:=Array.ext' (by simpa using e1)
     have e4:ats=#[t,u]:=Array.ext' (by simpa using e2)
     subst e3;subst e4
     split at h
     ·rename_i htu
      subst htu
      split at h
      ·rename_i i cx cy hi ex ey
       split at h
       ·exact h.elim
       ·rename_i h0
        exact seq_app hT hS hop hi h0 ex ey h hK
      ·rename_i i p hi ex ey;exfalso;apply hadd;unfold addsOnly;simp [hop,ex]
      ·exact h.elim
     ·split at h
      ·rename_i i j en es p hi hj ex ey
       split at h
       ·rename_i e he
        split at h
        ·rename_i z hz
         obtain ⟨h1,h2,h3⟩:=h
         unfold makeP at h3
         split at h3
         ·rename_i kk c
          exact seq_appZ hT hS hop hi hj h1 he hz h2 ex ey rfl h3.1 h3.2.1 h3.2.2 hK
         ·exact h3.elim
        ·exact h.elim
       ·exact h.elim
      ·exact h.elim
    ·exact h.elim
   ·cases hok
  ·rename_i t n parts hop
   unfold opS at h
   rw [hop] at h
   simp only at h
   split at h
   ·rename_i i hi
    split at h
    ·rename_i e he
     split at h
     ·rename_i ps hps
      have hne:parts.isEmpty=false:=by
       cases hp:parts.isEmpty with
       | false=>rfl
       | true =>
        exfalso;apply hadd;unfold addsOnly
        have:parts=#[]:=by simpa using hp
        subst this
        simp [hop,hi,partsC]
      simp only [hne,Bool.false_and,Bool.not_false,Bool.and_true] at h
      exact seq_buildSlice hT hS hop hi he hps h.1 h.2.1 h.2.2.1 h.2.2.2 hK
     ·exact h.elim
    ·exact h.elim
   ·exact h.elim
  ·rename_i t x hop
   unfold opS at h
   rw [hop] at h
   simp only at h
   split at h
   ·rename_i i b off hi ex;exfalso;apply hadd;unfold addsOnly;simp [hop,ex]
   ·rename_i i cs hi ex;exfalso;apply hadd;unfold addsOnly;simp [hop,ex]
   ·rename_i f q ex;exfalso;apply hadd;unfold addsOnly;simp [hop,ex]
   ·rename_i i id sz j off hi ex
    split at h
    ·rename_i r hr
     split at h
     ·rename_i hc
      unfold rowP at h
      split at h
      ·rename_i s rows he
       obtain ⟨hs,h⟩:=h
       subst hs
       split at h
       ·rename_i cells hj
        have hnp:r.kind=.deep∧T.plain t=false:=by
         by_cases hd:r.kind=.deep
         ·refine ⟨hd,?_⟩
          cases hp:T.plain t with
          | false=>rfl
          | true=>exfalso;apply hadd;unfold addsOnly;simp [hop,ex,hr,hp]
         ·exfalso;apply hadd;unfold addsOnly;simp [hop,ex,hr,hd]
        simp only [hnp.1,hnp.2,if_true,Bool.false_eq_true,if_false] at h
        obtain ⟨G1,hS1⟩:=hS.undeep hr hnp.1
        refine hS1.adds (A:=.none) (tv:=if i.agg=true then .agg ((cellsAt cells off i.size).map .pv) else .one (.pv (atP cells off))) ?_ (.none _) fun G' a' w' hS'=>hK G' _ a' w' hS' (by rw [Fr.plus_none];exact h)
        exact ad_loadO (id:=id) (row:={ r with kind:=.flat }) hT hi hop (by rw [opnd_tmps (show (setRow F id { r with kind:=.flat }).tmps=F.tmps from rfl)];exact ex) (by simp [setRow,lk_cons]) hc.1 hc.2 he hj (fun hd=>by cases hd) rfl
       ·exact h.elim
      ·exact h.elim
     ·exact h.elim
    ·exact h.elim
   ·exact h.elim
  ·rename_i op ty x y ty' hop
   have hq:nilQ T F y=true:=by
    cases hq:nilQ T F y with
    | true=>rfl
    | false=>exfalso;apply hadd;unfold addsOnly;simp [hop,hq]
   unfold nilQ at hq
   split at hq
   ·rename_i e s ey
    unfold opS at h
    rw [hop] at h
    simp only at h
    split at h
    ·rename_i ca cb i ex ey' hi
     rw [ey] at ey'
     cases ey'
     split at h
     ·rename_i hq2 hq1
      simp [scalPV] at hq1
     ·simp only at h
      split at h
      ·exact h.elim
      ·rename_i he
       split at h
       ·rename_i p hp
        split at h
        ·exact seq_nil (k:=k) hT hS hop hi he ex ey hp (.inl ⟨rfl,rfl⟩) h hK
        ·exact seq_nil (k:=k) hT hS hop hi he ex ey hp (.inr ⟨rfl,rfl⟩) h hK
        ·exact h.elim
       ·exact h.elim
    ·rename_i ca cb i ex ey' hi
     rw [ey] at ey'
     cases ey'
    ·exact h.elim
   ·cases hq
  ·cases hok
theorem wanted_eq {all:Array Oper} (hS:St w0 G F a w) {b:Bool} {F1:Fr} (hg:GuardIs all.toList F o b F1):Region.wanted o (yielded all a.tmps)=b∧St w0 G F1 a w:=by
 unfold GuardIs at hg
 unfold Region.wanted
 split at hg
 ·rename_i hgd;obtain ⟨rfl,rfl⟩:=hg;rw [hgd];exact ⟨rfl,hS⟩
 ·rename_i j want hgd
  rw [hgd]
  obtain ⟨oj,d,h1,h2,h34⟩:=hg
  have hoj:all[j]? = some oj:=by rw [←Array.getElem?_toList];exact h1
  rcases h34 with ⟨t,h3,h4⟩ | ⟨h3,rfl,rfl⟩
  rotate_left
  ·obtain ⟨v,k1,k2⟩:=hS.rel.tmps d _ h3
   have:yielded all a.tmps j=none:=by
    unfold yielded
    simp only [hoj,h2,Option.bind_some,k1]
    cases v<;>first | rfl | exact absurd rfl (k2 _)
   refine ⟨?_,hS⟩
   show (yielded all a.tmps j==some want)=false
   rw [this];rfl
  have hv:∃v,a.tmps[d]? = some v∧v=.bool t:=by
   rcases h3 with ⟨h3,_⟩ | ⟨h3,_⟩
   ·obtain ⟨v,k1,k2⟩:=hS.rel.tmps d _ h3;exact ⟨v,k1,k2⟩
   ·obtain ⟨v,k1,k2⟩:=hS.rel.tmps d _ h3;exact ⟨v,k1,RepS.bool_inv k2⟩
  obtain ⟨v,hv1,rfl⟩:=hv
  refine ⟨?_,?_⟩
  ·have:yielded all a.tmps j=some t:=by simp [yielded,hoj,h2,hv1]
   show (yielded all a.tmps j==some want)=b
   rw [this,h4]
   cases t<;>cases want<;>rfl
  ·rcases h3 with ⟨_,rfl⟩ | ⟨h3,rfl⟩
   ·exact hS
   ·refine ⟨⟨hS.rel.below,hS.rel.defers,hS.rel.size,fun u tv e=>?_,hS.rel.boxes,hS.rel.rows,hS.rel.stb,hS.rel.own,hS.rel.rowv,hS.rel.sub,hS.rel.wr,hS.rel.out⟩,hS.free,hS.krow,hS.kbox,hS.kdis⟩
    simp only [knows,lk_cons] at e
    split at e
    ·rename_i hdu;subst hdu;injection e with e;subst e;exact ⟨_,hv1,rfl⟩
    ·exact hS.rel.tmps u tv e
theorem opsS_sound (hT:TabOK P T) (hC:OracOK P T C) {ops:Array Oper} {k:Fr→Prop} {Q:Exit→Act→World→Prop} (hQ:∀G' F' a' w',St w0 G' F' a' w'→k F'→Q .normal a' w') :
 ∀(l:List Oper) (i:Nat) (F:Fr) (G:Gh) (a:Act) (w:World),(∀j,l[j]? = ops[i+j]?)→opsS C T ops.toList l F k→St w0 G F a w→wpOps P ops Q ((List.range l.length).map (i+·)) a w
 | [],i,F,G,a,w,_,h,hS=>hQ G F a w hS h
 | o::l,i,F,G,a,w,hl,h,hS=>by
  have h0:ops[i]? = some o:=by simpa using (hl 0).symm
  have hl':∀j,l[j]? = ops[i+1+j]? := fun j=>by
   have:=hl (j+1)
   rw [show i+1+j=i+(j+1) by omega]
   simpa using this
  have hrange:(List.range (o::l).length).map (i+·)=i::(List.range l.length).map (i+1+·):=by
   rw [List.length_cons,List.range_succ_eq_map,List.map_cons,List.map_map]
   simp only [Nat.add_zero,List.cons.injEq,true_and]
   apply List.map_congr_left
   intro j _
   simp only [Function.comp]
   omega
  rw [hrange]
  have hskip:∀(F1:Fr),St w0 G F1 a w→opsS C T ops.toList l (put F1 o.dst .undef) k→Region.wanted o (yielded ops a.tmps)=false→wpOps P ops Q (i::(List.range l.length).map (i+1+·)) a w:=by
   intro F1 hS1 h1 hw
   unfold wpOps
   rw [h0]
   simp only [hw]
   exact opsS_sound hT hC hQ l (i+1) _ G _ w hl' h1 (hS1.put o.dst (fun b hb=>by cases hb))
  have hdo:∀(F1:Fr),St w0 G F1 a w→seqOK T F1 o=true→opS C T o F1 (fun F=>opsS C T ops.toList l F k)→Region.wanted o (yielded ops a.tmps)=true→wpOps P ops Q (i::(List.range l.length).map (i+1+·)) a w:=by
   intro F1 hS1 hok h1 hw
   unfold wpOps
   rw [h0]
   simp only [hw,if_true]
   exact .inl (opS_seq hT hC h1 hok hS1 fun G' F' a' w' hS' h'=>opsS_sound hT hC hQ l (i+1) F' G' a' w' hl' h' hS')
  unfold opsS at h
  split at h
  ·rename_i hg
   split at h
   case isFalse=>exact h.elim
   rename_i hok
   exact hdo F hS hok h (by simp [Region.wanted,hg])
  ·rename_i j want hg
   obtain ⟨b,F1,h1,h2⟩:=guardB_inv hg h
   obtain ⟨hw,hS1⟩:=wanted_eq hS h1
   cases b with
   | true =>
    rw [if_pos rfl] at h2
    split at h2
    case isFalse=>exact h2.elim
    rename_i hok
    exact hdo F1 hS1 hok h2 hw
   | false =>
    rw [if_neg (by simp)] at h2
    exact hskip F1 hS1 h2 hw
end
end Go.Ev
/- The evaluator's word for a piece of code is the code's. -/
set_option linter.unusedSimpArgs false
set_option linter.unusedVariables false
namespace Go.Ev
open Go.RowKit
def exitOf:Out→Exit
 | .norm=>.normal
 | .ret=>.ret
 | .exit i=>.exit i
section
variable {P : Program} {T : Tab} {C : Orac} {w0 : Base}
theorem St.tb {G:Gh} {F:Fr} {a:Act} {w:World} (h:St w0 G F a w):∀t tv,lk F.tmps t=some tv→t<F.nt:=by
 intro t tv e
 obtain ⟨v,h1,_⟩:=h.rel.tmps t tv e
 have:=h.rel.size
 rcases Nat.lt_or_ge t a.tmps.size with h' | h'
 ·rw [this] at h';exact h'
 ·rw [Array.getElem?_eq_none h'] at h1;cases h1
theorem St.knows {G:Gh} {F:Fr} {a:Act} {w:World} (h:St w0 G F a w) {d:Nat} {b:Bool} (hd:lk F.tmps d=some (.one (.pv (.bool b)))):St w0 G (Ev.knows F d b) a w:=by
 obtain ⟨v,h1,h2⟩:=h.rel.tmps d _ hd
 have h3:=RepS.bool_inv h2
 subst h3
 refine ⟨⟨h.rel.below,h.rel.defers,h.rel.size,fun u tv e=>?_,h.rel.boxes,h.rel.rows,h.rel.stb,h.rel.own,h.rel.rowv,h.rel.sub,h.rel.wr,h.rel.out⟩,h.free,h.krow,h.kbox,h.kdis⟩
 simp only [Ev.knows,lk_cons] at e
 split at e
 ·rename_i hdu;subst hdu;injection e with e;subst e;exact ⟨_,h1,rfl⟩
 ·exact h.rel.tmps u tv e
theorem opsL_sound (hT:TabOK P T) (hC:OracOK P T C) {ops:Array Oper} {m:List Nat} (hB:ordB ops m=true) {F0:Fr} (hL:lateOK T F0 ops m=true) {k:Fr→Prop} {Q:Exit→Act→World→Prop} (hQ:∀F G a w,St w0 G F a w→k F→Q .normal a w) :
 ∀(l:List Nat) (fuel:Nat) (listed:Array Bool) (F:Fr) (G:Gh) (a:Act) (w:World),(∀x∈l,x∈m)→l.Pairwise (·<·)→opsL C T ops.toList l F k→St w0 G F a w →
  listed.size=ops.size→count ops listed≤fuel→Down ops listed→(∀j,j<ops.size→(listed.getD j true=true↔j∉l))→wpAny P .any ops Q fuel listed a w
 | [],fuel,listed,F,G,a,w,_,_,h,hS,hs,hc,hD,hl=>by
  have hall:∀i,i<ops.size→listed.getD i true=true:=fun i hi=>(hl i hi).2 (by simp)
  have hr:Region.ready .any ops listed=[]:=by
   cases hr:Region.ready .any ops listed with
   | nil=>rfl
   | cons i l =>
    have hm:i∈Region.ready .any ops listed:=by rw [hr];simp
    rw [mem_ready] at hm
    obtain ⟨h1,o,h2,_⟩:=hm
    rw [hall i (size_of h2)] at h1
    cases h1
  cases fuel with
  | zero=>exact ⟨hr,hQ F G a w hS h⟩
  | succ n=>exact ⟨fun _=>hQ F G a w hS h,fun i hi=>by rw [hr] at hi;cases hi⟩
 | x::l,fuel,listed,F,G,a,w,hm,hp,h,hS,hs,hc,hD,hl=>by
  obtain ⟨hp1,hp2⟩:=List.pairwise_cons.1 hp
  unfold opsL at h
  split at h
  case h_2=>exact h.elim
  rename_i o ho
  have hx:ops[x]? = some o:=by rw [←Array.getElem?_toList];exact ho
  have hxs:=size_of hx
  have hu:listed.getD x true=false:=by
   cases hh:listed.getD x true with
   | false=>rfl
   | true=>exact absurd (by simp) ((hl x hxs).1 hh)
  cases fuel with
  | zero =>
   exfalso
   have:=count_zero (ops:=ops) (listed:=listed) (by omega) hxs
   rw [hu] at this;cases this
  | succ fuel =>
  refine ⟨fun hr=>absurd (ready_some hB hs hr x hxs) (by rw [hu];simp),fun i hi=>?_⟩
  rw [mem_ready] at hi
  obtain ⟨hiu,oi,hoi,haft⟩:=hi
  have his:=size_of hoi
  have hil:i∈x::l:=Decidable.byContradiction fun hno=>by rw [(hl i his).2 hno] at hiu;cases hiu
  have hix:i=x:=by
   rcases List.mem_cons.1 hil with h' | h'
   ·exact h'
   ·exfalso
    obtain ⟨fl,hL1,hL2,_⟩:=lateOK_spec hL
    have hxf:x∉ops.size::fl:=fun h'=>by
     rcases List.mem_cons.1 h' with h' | h'
     ·omega
     ·obtain ⟨_,_,hok,_⟩:=flOne_spec (hL2 x h');exact hok (hm x (by simp))
    have:=late_waits hL1 hD (hm i hil) (fun o' ho' e he hb=>by rw [hoi] at ho';injection ho' with ho';subst ho';exact haft e he hb) hxs hxf (.inr (hp1 i h'))
    rw [getD_ft hs hxs false true,hu] at this;cases this
  subst hix
  rw [hx] at hoi;injection hoi with hoi;subst hoi
  have hs2:(listed.setIfInBounds i true).size=ops.size:=by simpa using hs
  have hc2:count ops (listed.setIfInBounds i true)≤fuel:=by have:=count_set (ops:=ops) hxs hu;omega
  have hl2:∀j,j<ops.size→((listed.setIfInBounds i true).getD j true=true↔j∉l):=by
   intro j hj
   by_cases hji:i=j
   ·subst hji
    have hlt:i<listed.size:=by omega
    refine ⟨fun _ hh=>Nat.lt_irrefl _ (hp1 i hh),fun _=>by simp [hlt]⟩
   ·rw [getD_set_ne true hji,hl j hj,List.mem_cons,not_or]
    exact ⟨fun h=>h.2,fun h=>⟨fun e=>hji e.symm,h⟩⟩
  have next:∀(F:Fr) (G:Gh) (a:Act) (w:World),opsL C T ops.toList l F k→St w0 G F a w→wpAny P .any ops Q fuel (listed.setIfInBounds i true) a w:=fun F G a w h hS =>
   opsL_sound hT hC hB hL hQ l fuel _ F G a w (fun y hy=>hm y (List.mem_cons_of_mem _ hy)) hp2 h hS hs2 hc2 (hD.set hx haft) hl2
  have hdo:∀(F1:Fr),St w0 G F1 a w→seqOK T F1 o=true→opS C T o F1 (fun F=>opsL C T ops.toList l F k)→Region.wanted o (yielded ops a.tmps)=true→wpOp P ops Q i (wpAny P .any ops Q fuel (listed.setIfInBounds i true)) a w:=by
   intro F1 hS1 hok h1 hw
   unfold wpOp
   rw [hx]
   simp only [hw,if_true]
   exact .inl (opS_seq hT hC h1 hok hS1 fun G' F' a' w' hS' h'=>next F' G' a' w' h' hS')
  split at h
  ·rename_i hg
   split at h
   case isFalse=>exact h.elim
   rename_i hok
   exact hdo F hS hok h (by simp [Region.wanted,hg])
  ·rename_i j want hg
   obtain ⟨b,F1,h1,h2⟩:=guardB_inv hg h
   obtain ⟨hw,hS1⟩:=wanted_eq hS h1
   cases b with
   | true =>
    rw [if_pos rfl] at h2
    split at h2
    case isFalse=>exact h2.elim
    rename_i hok
    exact hdo F1 hS1 hok h2 hw
   | false =>
    rw [if_neg (by simp)] at h2
    unfold wpOp
    rw [hx]
    simp only [hw]
    exact next _ G _ w h2 (hS1.put o.dst (fun b hb=>by cases hb))
theorem allX_get {ops:Array Oper} {U:List Nat} {p:Nat→Oper→Prop}:∀{l:List Nat},allX ops U p l→∀i o,i∈l→ops[i]? = some o→rdyU U o=true→p i o
 | [],_,i,o,hi,_,_=>(nomatch hi)
 | j::r,h,i,o,hi,ho,hr=>by
  simp only [allX] at h
  split at h
  ·rename_i oj hj
   rcases List.mem_cons.1 hi with rfl | hi
   ·rw [ho] at hj;injection hj with hj;subst hj
    rw [if_pos hr] at h
    exact h.1
   ·split at h
    ·exact allX_get h.2 i o hi ho hr
    ·exact allX_get h i o hi ho hr
  ·exact h.elim
theorem rdyU_of {ops:Array Oper} {U:List Nat} {listed:Array Bool} (hs:listed.size=ops.size) (hl:∀j,j<ops.size→(listed.getD j true=true↔j∉U)) {o:Oper} (h:∀e∈o.after,Region.binds .any e=true→listed.getD e.on false=true):rdyU U o=true:=by
 unfold rdyU
 refine Array.all_eq_true_iff_forall_mem.2 fun e he=>?_
 cases hb:Region.binds .any e with
 | false=>rfl
 | true =>
  have h1:=h e he hb
  have hlt:e.on<ops.size:=by
   rw [←hs]
   rcases Nat.lt_or_ge e.on listed.size with h' | h'
   ·exact h'
   ·simp [h'] at h1
  rw [getD_ft hs hlt false true] at h1
  have:=(hl e.on hlt).1 h1
  simp [this]
theorem opG_sound (hT:TabOK P T) (hC:OracOK P T C) {ops:Array Oper} {i:Nat} {o:Oper} {F:Fr} {G:Gh} {a:Act} {w:World} {k:Fr→Prop} {K:Act→World→Prop} {Q:Exit→Act→World→Prop} (ho:ops[i]? = some o) (h:opG C T ops.toList o F k) (hS:St w0 G F a w)
 (hK:∀G' F' a' w',St w0 G' F' a' w'→k F'→K a' w'):wpOp P ops Q i K a w:=by
 have hdo:∀(F1:Fr),St w0 G F1 a w→seqOK T F1 o=true→opS C T o F1 k→Region.wanted o (yielded ops a.tmps)=true→wpOp P ops Q i K a w:=by
  intro F1 hS1 hok h1 hw
  unfold wpOp
  rw [ho]
  simp only [hw,if_true]
  exact .inl (opS_seq hT hC h1 hok hS1 hK)
 unfold opG at h
 split at h
 ·rename_i hg
  split at h
  case isFalse=>exact h.elim
  rename_i hok
  exact hdo F hS hok h (by simp [Region.wanted,hg])
 ·rename_i j want hg
  obtain ⟨b,F1,h1,h2⟩:=guardB_inv hg h
  obtain ⟨hw,hS1⟩:=wanted_eq hS h1
  cases b with
  | true =>
   rw [if_pos rfl] at h2
   split at h2
   case isFalse=>exact h2.elim
   rename_i hok
   exact hdo F1 hS1 hok h2 hw
  | false =>
   rw [if_neg (by simp)] at h2
   unfold wpOp
   rw [ho]
   simp only [hw]
   exact hK _ _ _ _ (hS1.put o.dst (tv:=.undef) (fun b hb=>by cases hb)) h2
theorem left_set {ops:Array Oper} {U:List Nat} {listed:Array Bool} (hs:listed.size=ops.size) {i:Nat} (hi:i<ops.size) (hl:∀j,j<ops.size→(listed.getD j true=true↔j∉U)) :
 ∀j,j<ops.size→((listed.setIfInBounds i true).getD j true=true↔j∉U.filter (· != i)):=by
 intro j hj
 by_cases hji:i=j
 ·subst hji
  have hlt:i<listed.size:=by omega
  exact ⟨fun _ hh=>by simp at hh,fun _=>by simp [hlt]⟩
 ·rw [getD_set_ne true hji,hl j hj,List.mem_filter]
  constructor
  ·exact fun h hh=>h hh.1
  ·exact fun h hh=>h ⟨hh,by simp;exact fun e=>hji e.symm⟩
theorem opsX_sound (hT:TabOK P T) (hC:OracOK P T C) {ops:Array Oper} {m:List Nat} (hB:ordB ops m=true) {k:Fr→Prop} {Q:Exit→Act→World→Prop} (hQ:∀F G a w,St w0 G F a w→k F→Q .normal a w) :
 ∀(n:Nat) (U:List Nat) (fuel:Nat) (listed:Array Bool) (F:Fr) (G:Gh) (a:Act) (w:World),opsX C T ops n U F k→St w0 G F a w→(∀x∈U,x<ops.size) →
  listed.size=ops.size→count ops listed≤fuel→(∀j,j<ops.size→(listed.getD j true=true↔j∉U))→wpAny P .any ops Q fuel listed a w:=by
 have fin:∀(fuel:Nat) (listed:Array Bool) (F:Fr) (G:Gh) (a:Act) (w:World),k F→St w0 G F a w→listed.size=ops.size→(∀j,j<ops.size→(listed.getD j true=true↔j∉([]:List Nat)))→wpAny P .any ops Q fuel listed a w:=by
  intro fuel listed F G a w h hS hs hl
  have hr:Region.ready .any ops listed=[]:=by
   cases hr:Region.ready .any ops listed with
   | nil=>rfl
   | cons i l =>
    have hm:i∈Region.ready .any ops listed:=by rw [hr];simp
    rw [mem_ready] at hm
    obtain ⟨h1,o,h2,_⟩:=hm
    rw [(hl i (size_of h2)).2 (by simp)] at h1
    cases h1
  cases fuel with
  | zero=>exact ⟨hr,hQ F G a w hS h⟩
  | succ n=>exact ⟨fun _=>hQ F G a w hS h,fun i hi=>by rw [hr] at hi;cases hi⟩
 intro n
 induction n with
 | zero =>
  intro U fuel listed F G a w h hS _ hs hc hl
  simp only [opsX] at h
  split at h
  ·rename_i hU
   have:U=[]:=List.isEmpty_iff.1 hU
   subst this
   exact fin fuel listed F G a w h hS hs hl
  ·exact h.elim
 | succ n ih =>
  intro U fuel listed F G a w h hS hU hs hc hl
  simp only [opsX] at h
  split at h
  ·rename_i hU
   have:U=[]:=List.isEmpty_iff.1 hU
   subst this
   exact fin fuel listed F G a w h hS hs hl
  ·rename_i hne
   obtain ⟨u,hu⟩:∃u,u∈U:=by
    cases U with
    | nil=>simp at hne
    | cons u _=>exact ⟨u,by simp⟩
   have hul:listed.getD u true=false:=by
    cases hh:listed.getD u true with
    | false=>rfl
    | true=>exact absurd hu ((hl u (hU u hu)).1 hh)
   cases fuel with
   | zero =>
    have:=count_zero (ops:=ops) (listed:=listed) (by omega) (hU u hu)
    rw [hul] at this;cases this
   | succ fuel =>
    refine ⟨fun hr=>absurd (ready_some hB hs hr u (hU u hu)) (by rw [hul];simp),fun i hi=>?_⟩
    rw [mem_ready] at hi
    obtain ⟨hiu,o,ho,haft⟩:=hi
    have his:=size_of ho
    have hiU:i∈U:=Decidable.byContradiction fun hno=>by rw [(hl i his).2 hno] at hiu;cases hiu
    have h1:=allX_get h i o hiU ho (rdyU_of hs hl haft)
    refine opG_sound hT hC ho h1 hS fun G' F' a' w' hS' h'=>ih _ fuel _ F' G' a' w' h' hS' (fun x hx=>hU x (List.mem_filter.1 hx).1) (by simpa using hs) (by have:=count_set (ops:=ops) his hiu;omega) (left_set hs his hl)
def noPan (Q:Exit→Act→World→Prop):Exit→Act→World→Prop:=fun e a w=>match e with | .panic _=>False | e=>Q e a w
theorem regA_sound (hT:TabOK P T) (hC:OracOK P T C) {ops:Array Oper} {F:Fr} {k:Fr→Prop} {G:Gh} {a:Act} {w:World} {id:Nat} {Q:Exit→Act→World→Prop} (h:regA C T ops F k) (hS:St w0 G F a w)
 (hQ:∀F G a w,St w0 G F a w→k F→Q .normal a w):(Code.region id ops true).wp P Q a w:=by
 unfold regA at h
 obtain ⟨m,p,F',hst,h1,_,hp⟩:=opsA_steps hT hC ops.toList 0 [] F (fun _ h=>(nomatch h)) .nil h
 split at h1
 case isFalse=>exact h1.elim
 rename_i hB
 split at h1
 ·rename_i hL
  obtain ⟨fl,hL1,hL2,hL3⟩:=lateOK_spec hL
  refine Code.wp_mono (Q:=noPan Q) (fun e a w h=>by cases e<;>first | exact h | exact h.elim) ?_
  refine region_any hB hT.mixed hS hst hT ops.size hL1 (fun f hf=>⟨hL2 f hf,fun o ho x hx hb he=>?_⟩) hL3 (fun _ _ _ _ h=>h) (fun fuel listed G a w hS' hs hc hD hl=>?_) (fun fuel listed G a w oe hoe=>?_)
  ·have h1:=ord_after hB ho hx hb
   have h2:=size_of ho
   omega
  ·exact opsL_sound (Q:=noPan Q) hT hC hB hL (fun F G a w h1 h2=>hQ F G a w h1 h2) m.reverse fuel listed F' G a w (fun x hx=>by simpa using hx) (List.pairwise_reverse.2 hp) h1 hS' hs hc hD (fun j hj=>by rw [hl j hj];simp)
  ·have:=size_of hoe
   omega
 ·dsimp only at h1
  split at h1
  case h_2=>exact h1.elim
  rename_i oe hoe
  split at h1
  case isFalse=>exact h1.elim
  rename_i hE
  obtain ⟨hA,hX⟩:=h1
  unfold lateE at hE
  simp only [Bool.and_eq_true,List.all_eq_true] at hE
  obtain ⟨⟨⟨e1,e2⟩,e3⟩,e4⟩:=hE
  have hmsz:∀x∈m,x<ops.size:=fun x hx=>of_decide_eq_true (e4 x hx)
  refine Code.wp_mono (Q:=noPan Q) (fun e a w h=>by cases e<;>first | exact h | exact h.elim) ?_
  refine region_any hB hT.mixed hS hst hT (oddOne T F' ops m) e1 (fun f hf=>⟨(e2 f hf).1,fun o ho x hx hb=>?_⟩) (.inr e3) (fun _ _ _ _ h=>h) (fun fuel listed G a w hS' hs hc hD hl=>?_) (fun fuel listed G a w oe' hoe' hS' hs hc hD hl i him hir=>?_)
  ·have h2:=(e2 f hf).2
   rw [ho] at h2
   have:=(Array.all_eq_true_iff_forall_mem.1 h2) x hx
   rw [hb] at this
   simpa using this
  ·exact opsX_sound (Q:=noPan Q) hT hC hB (fun F G a w h1 h2=>hQ F G a w h1 h2) m.length m.reverse fuel listed F' G a w hA hS' (fun x hx=>hmsz x (by simpa using hx)) hs hc (fun j hj=>by rw [hl j hj];simp)
  ·rw [hoe] at hoe'
   injection hoe' with hoe'
   subst hoe'
   have hl2:∀j,j<ops.size→(listed.getD j true=true↔j∉oddOne T F' ops m::m.reverse):=fun j hj=>by
    rw [hl j hj];simp only [List.mem_cons,List.mem_reverse,not_or];exact And.comm
   have hl3:∀j,j<ops.size→(listed.getD j true=true↔j∉oddOne T F' ops m::m):=fun j hj=>by
    rw [hl j hj];simp only [List.mem_cons,not_or];exact And.comm
   rw [mem_ready] at hir
   obtain ⟨hiu,o,ho,haft⟩:=hir
   have his:=size_of ho
   have h1:=allX_get hX i o (by simpa using him) ho (rdyU_of hs hl3 haft)
   refine opG_sound hT hC ho h1 hS' fun G' F2 a' w' hS2 h'=>?_
   exact opsX_sound (Q:=noPan Q) hT hC hB (fun F G a w h1 h2=>hQ F G a w h1 h2) m.length _ fuel _ F2 G' a' w' h' hS2 (fun x hx=>by
    have:=(List.mem_filter.1 hx).1
    rcases List.mem_cons.1 this with rfl | hx
    ·exact size_of hoe
    ·exact hmsz x (by simpa using hx)) (by simpa using hs) (by have:=count_set (ops:=ops) his hiu;omega) (left_set hs his hl2)
theorem trimL_ok {keep:List (Nat×Bool)}:∀{l:List (Nat×TV)} {n:Nat} {sn:List Nat} {K:List (Nat×TV)→Prop},trimL keep n sn l K→∃r,K r∧(∀t v,lk r t=some v→seenT t sn=false∧lk l t=some v)∧(n=0→∀t v,lk r t=some v→keepsT 0 keep t=true)
 | [],n,sn,K,h=>⟨[],by simpa [trimL] using h,⟨fun t v e=>by simp [lk] at e,fun _ t v e=>by simp [lk] at e⟩⟩
 | x::l,n,sn,K,h=>by
  simp only [trimL] at h
  have lkc:∀(m:List (Nat×TV)) t,lk (x::m) t=if x.1=t then some x.2 else lk m t:=fun m t=>rfl
  split at h
  ·rename_i hk
   simp only [Bool.and_eq_true,Bool.not_eq_true'] at hk
   obtain ⟨r,h1,h2,h3⟩:=trimL_ok h
   refine ⟨x::r,h1,fun t v e=>?_,fun hn t v e=>?_⟩
   ·rw [lkc] at e ⊢
    split at e
    ·rename_i hx;rw [if_pos hx];exact ⟨by rw [←hx];exact hk.2,e⟩
    ·rename_i hx;rw [if_neg hx]
     obtain ⟨g1,g2⟩:=h2 t v e
     simp only [seenT,Bool.or_eq_false_iff] at g1
     exact ⟨g1.2,g2⟩
   ·rw [lkc] at e
    split at e
    ·rename_i hx;rw [←hx];subst hn;exact hk.1
    ·exact h3 (by omega) t v e
  ·rename_i hk
   obtain ⟨r,h1,h2,h3⟩:=trimL_ok h
   refine ⟨r,h1,fun t v e=>?_,fun hn t v e=>h3 (by omega) t v e⟩
   obtain ⟨g1,g2⟩:=h2 t v e
   refine ⟨g1,?_⟩
   rw [lkc]
   have hne:¬x.1=t:=fun hx=>by
    subst hx
    rw [g1] at hk
    cases n with
    | succ n=>simp [keepsT] at hk
    | zero=>rw [h3 rfl _ v e] at hk;cases hk
   rw [if_neg hne]
   exact g2
theorem trimK_ok {G:Gh} {F:Fr} {a:Act} {w:World} {n:Nat} {keep:List (Nat×Bool)} {K:Fr→Prop} (h:trimK n keep F K) (hS:St w0 G F a w):∃F',St w0 G F' a w∧K F':=by
 cases n with
 | zero=>exact ⟨F,hS,h⟩
 | succ n =>
  obtain ⟨r,h1,h2,_⟩:=trimL_ok h
  exact ⟨⟨r,F.boxes,F.rows,F.next,F.nt,F.pin⟩,⟨⟨hS.rel.below,hS.rel.defers,hS.rel.size,fun t tv e=>hS.rel.tmps t tv (h2 t tv e).2,hS.rel.boxes,hS.rel.rows,hS.rel.stb,hS.rel.own,hS.rel.rowv,hS.rel.sub,hS.rel.wr,hS.rel.out⟩,hS.free,hS.krow,hS.kbox,hS.kdis⟩,h1⟩
theorem sx_sound (hT:TabOK P T) (hC:OracOK P T C) (keep:List (Nat×Bool)):∀(c:Code) {F:Fr} {k:Out→Fr→Prop} {G:Gh} {a:Act} {w:World} {Q:Exit→Act→World→Prop},
 sx C T keep c F k→St w0 G F a w→(∀o F' G' a' w',St w0 G' F' a' w'→k o F'→Q (exitOf o) a' w')→c.wp P Q a w
 | .skip,F,k,G,a,w,Q,h,hS,hQ=>wp_skip (hQ .norm F G a w hS h)
 | .region id ops draw,F,k,G,a,w,Q,h,hS,hQ=>by
  simp only [sx] at h
  split at h
  ·rename_i hd
   subst hd
   exact regA_sound hT hC h hS fun F' G' a' w' hS' hk=>hQ .norm F' G' a' w' hS' hk
  ·rename_i hd
   have hd':draw=false:=by simpa using hd
   subst hd'
   refine wp_region ?_
   have:=opsS_sound hT hC (ops:=ops) (k:=k .norm) (Q:=Q) (fun G' F' a' w' hS' hk=>hQ .norm F' G' a' w' hS' hk) ops.toList 0 F G a w (fun j=>by simp) h hS
   have e:(List.range ops.toList.length).map (0+·)=List.range ops.size:=by
    rw [show (fun x=>0+x)=(fun x:Nat=>x) by funext x;omega,List.map_id']
    simp
   rw [e] at this
   exact this
 | .seq x y,F,k,G,a,w,Q,h,hS,hQ=>by
  simp only [sx] at h
  refine wp_seq (sx_sound hT hC keep x h hS fun o F' G' a' w' hS' hk=>?_)
  cases o with
  | norm =>
   obtain ⟨F2,hS2,hk2⟩:=trimK_ok hk hS'
   exact sx_sound hT hC keep y hk2 hS2 hQ
  | ret=>exact hQ .ret F' G' a' w' hS' hk
  | exit i=>exact hQ (.exit i) F' G' a' w' hS' hk
 | .cond c x y,F,k,G,a,w,Q,h,hS,hQ=>by
  simp only [sx] at h
  split at h
  ·rename_i d
   split at h
   ·rename_i t ht
    obtain ⟨v,h1,h2⟩:=hS.rel.tmps d _ ht
    have h3:v=.bool t:=h2
    subst h3
    have hev:a.eval (.tmp d)=.bool t:=by simp [Act.eval,h1]
    cases t with
    | true=>rw [if_pos rfl] at h;exact wp_cond_true hev (sx_sound hT hC keep x h hS hQ)
    | false=>rw [if_neg (by simp)] at h;exact wp_cond_false hev (sx_sound hT hC keep y h hS hQ)
   ·rename_i p ht
    unfold iteP at h
    split at h
    ·rename_i t
     obtain ⟨v,h1,h2⟩:=hS.rel.tmps d _ ht
     have h3:=RepS.bool_inv h2
     subst h3
     have hev:a.eval (.tmp d)=.bool t:=by simp [Act.eval,h1]
     have hS1:=hS.knows ht
     cases t with
     | true=>rw [if_pos rfl] at h;exact wp_cond_true hev (sx_sound hT hC keep x h hS1 hQ)
     | false=>rw [if_neg (by simp)] at h;exact wp_cond_false hev (sx_sound hT hC keep y h hS1 hQ)
    ·exact h.elim
   ·exact h.elim
  ·exact h.elim
 | .block id x,F,k,G,a,w,Q,h,hS,hQ=>by
  simp only [sx] at h
  refine wp_block (sx_sound hT hC keep x h hS fun o F' G' a' w' hS' hk=>?_)
  cases o with
  | norm=>exact hQ .norm F' G' a' w' hS' hk
  | ret=>exact hQ .ret F' G' a' w' hS' hk
  | exit i =>
   simp only at hk
   show Exit.inBlock id Q (.exit i) a' w'
   simp only [Exit.inBlock]
   split at hk
   ·rename_i hi;rw [if_pos hi];exact hQ .norm F' G' a' w' hS' hk
   ·rename_i hi;rw [if_neg hi];exact hQ (.exit i) F' G' a' w' hS' hk
 | .exit i,F,k,G,a,w,Q,h,hS,hQ=>wp_exit (hQ (.exit i) F G a w hS h)
 | .loop b,F,k,G,a,w,Q,h,hS,hQ=>by
  simp only [sx] at h
  split at h
  ·rename_i H hH
   obtain ⟨G1,hS1⟩:=headOf_sound hH hS
   obtain ⟨n,hn⟩:=h
   refine wp_loop_rounds n ?_
   have key:∀(n:Nat) (F:Fr) (G:Gh) (a:Act) (w:World),loopI (sx C T keep b) k n F→St w0 G F a w→Code.rounds P b Q n a w:=by
    intro n
    induction n with
    | zero=>intro F G a w h _;exact h.elim
    | succ n ih =>
     intro F G a w h hS
     rw [rounds_succ]
     refine sx_sound hT hC keep b h hS fun o F' G' a' w' hS' hk=>?_
     cases o with
     | norm =>
      simp only at hk
      split at hk
      ·rename_i F1 hF1
       obtain ⟨G2,hS2⟩:=conv_sound hS.keys hS.tb hF1 hS'
       exact ih F1 G2 a' w' hk hS2
      ·exact hk.elim
     | ret=>exact hQ .ret F' G' a' w' hS' hk
     | exit i=>exact hQ (.exit i) F' G' a' w' hS' hk
   exact key n H G1 a w hn hS1
  ·exact h.elim
 | .ret,F,k,G,a,w,Q,h,hS,hQ=>wp_ret (hQ .ret F G a w hS h)
 | .rangeFunc ..,F,k,G,a,w,Q,h,hS,hQ=>by simp [sx] at h
 | .scope _,F,k,G,a,w,Q,h,hS,hQ=>by simp [sx] at h
 | .label _,F,k,G,a,w,Q,h,hS,hQ=>by simp [sx] at h
 | .goto _,F,k,G,a,w,Q,h,hS,hQ=>by simp [sx] at h
end
end Go.Ev
/- A function's whole run: what the evaluator says of it is what a call of it owes. -/
set_option linter.unusedSimpArgs false
set_option linter.unusedVariables false
namespace Go.Ev
open Go.RowKit
section
variable {P : Program} {T : Tab} {C : Orac} {F : Fr} {w0 : Base} {G : Gh} {a : Act} {w : World}
theorem outCells_append:∀{c1 c2:List Cell} {k1 k2:List CK} {u u1 u2:List Nat} {p1 p2:List PV},outCells F u c1 k1=some (p1,u1)→outCells F u1 c2 k2=some (p2,u2)→outCells F u (c1++c2) (k1++k2)=some (p1++p2,u2)
 | [],c2,[],k2,u,u1,u2,p1,p2,h1,h2=>by simp only [outCells] at h1;injection h1 with h1;injection h1 with e1 e2;subst e1;subst e2;exact h2
 | c::c1,c2,k::k1,k2,u,u1,u2,p1,p2,h1,h2=>by
  simp only [outCells] at h1
  split at h1
  ·rename_i p u' e1
   split at h1
   ·rename_i ps u'' e2
    injection h1 with h1;injection h1 with e3 e4;subst e3;subst e4
    have:=outCells_append e2 h2
    simp only [List.cons_append,outCells,e1,this]
   ·cases h1
  ·cases h1
 | [],_,_::_,_,_,_,_,_,_,h,_=>by simp [outCells] at h
 | _::_,_,[],_,_,_,_,_,_,h,_=>by simp [outCells] at h
theorem outCells_len:∀{cs:List Cell} {ks:List CK} {u u':List Nat} {ps:List PV},outCells F u cs ks=some (ps,u')→cs.length=ks.length∧ps.length=ks.length
 | [],[],u,u',ps,h=>by simp only [outCells] at h;injection h with h;injection h with e1 e2;subst e1;exact ⟨rfl,rfl⟩
 | c::cs,k::ks,u,u',ps,h=>by
  simp only [outCells] at h
  split at h
  ·split at h
   ·rename_i ps' u2 e2
    injection h with h;injection h with e3 e4;subst e3
    have:=outCells_len e2
    simp [this.1,this.2]
   ·cases h
  ·cases h
 | [],_::_,_,_,_,h=>by simp [outCells] at h
 | _::_,[],_,_,_,h=>by simp [outCells] at h
def resRun (a:Act):ResultVar→Sem Value
 | .tmp t=>pure (a.tmps.getD t undef)
 | .cell x t=>do loadVar t (←asAddr (a.tmps.getD x undef))
inductive ResAll (P:Program) (a:Act) (w:World):List ResultVar→List Value→Prop
 | nil:ResAll P a w [] []
 | cons {r:ResultVar} {v:Value} {rs:List ResultVar} {vs:List Value}:(resRun a r).run P w=.ok v w→ResAll P a w rs vs→ResAll P a w (r::rs) (v::vs)
theorem resTV_ok (hT:TabOK P T) (hR:Rel w0 G F a w) {r:ResultVar} {tv:TV} (h:resTV' T F r=some tv):∃v,(resRun a r).run P w=.ok v w∧RepT G w tv v:=by
 cases r with
 | tmp t =>
  obtain ⟨v,m1,m2⟩:=hR.tmps t tv h
  exact ⟨v,by simp [resRun,m1],m2⟩
 | cell t ty =>
  simp only [resTV'] at h
  split at h
  ·rename_i b off i e1 hi
   split at h
   ·rename_i cs hb
    obtain ⟨pv,m1,g,m2,m3⟩:=hR.tmps t _ e1
    obtain ⟨_,vs,e,hh,hc⟩:=hR.boxes b cs g hb m2
    have cell:∀j u,vs[j]? = some u→w.cell? ⟨g,j,none⟩=some u:=fun j u hu=>by rw [cell_of_row w g j _ e (0,0) hh];simpa using hu
    subst m3
    have hrun:∀v,(loadVar ty ⟨g,off,none⟩).run P w=.ok v w→(resRun a (.cell t ty)).run P w=.ok v w:=by
     intro v hv
     simp only [resRun]
     rw [show a.tmps.getD t undef=.pointer (some ⟨g,off,none⟩) by simp [m1]]
     rw [Sem.run_bind]
     have:(asAddr (.pointer (some ⟨g,off,none⟩))).run P w=.ok ⟨g,off,none⟩ w:=by simp [asAddr]
     rw [this]
     exact hv
    split at h
    ·rename_i hag
     split at h
     ·rename_i hle
      injection h with h;subst h
      have hlen:=hc.len
      refine ⟨.agg ((vs.drop off).take i.size).toArray,hrun _ ?_,_,rfl,(hc.drop off).take i.size⟩
      exact run_loadVar_agg (hT.ty ty i hi) hag w g off ((vs.drop off).take i.size) (by rw [List.length_take,List.length_drop];omega) (fun j u hu=>cell _ _ (by
       rw [List.getElem?_take] at hu
       split at hu
       ·rwa [List.getElem?_drop] at hu
       ·cases hu))
     ·cases h
    ·rename_i hag
     split at h
     ·rename_i c hcc
      injection h with h;subst h
      obtain ⟨u,h7,h8⟩:=hc.at_ hcc
      exact ⟨u,hrun _ (run_loadVar_one (hT.ty ty i hi) (by simpa using hag) w g off u (cell _ _ h7)),h8⟩
     ·cases h
   ·cases h
  ·cases h
theorem outAll_ok (hT:TabOK P T) (hR:Rel w0 G F a w):∀{rvs:List ResultVar} {sg:List RS} {u u':List Nat} {out:List PV},outAll T F u rvs sg=some (out,u') →
 ∃(rcs:List Cell) (cvs:List Value),RepCs G w rcs cvs∧outCells F u rcs (allCks sg)=some (out,u')∧ResAll P a w rvs (packRS sg cvs)
 | [],[],u,u',out,h=>by simp only [outAll] at h;injection h with h;injection h with e1 e2;subst e1;subst e2;exact ⟨[],[],rfl,rfl,.nil⟩
 | rv::ts,r::rs,u,u',out,h=>by
  simp only [outAll] at h
  split at h
  ·rename_i tv htv
   split at h
   ·rename_i ps u1 h1
    split at h
    ·rename_i qs u2 h2
     injection h with h;injection h with e3 e4;subst e3;subst e4
     obtain ⟨rcs,cvs,k1,k2,k3⟩:=outAll_ok hT hR h2
     obtain ⟨v,m1,m2⟩:=resTV_ok hT hR htv
     unfold outTV at h1
     split at h1
     ·rename_i c ck
      split at h1
      ·rename_i p u3 h3
       injection h1 with h1;injection h1 with e5 e6;subst e5;subst e6
       refine ⟨c::rcs,v::cvs,⟨v,cvs,rfl,m2,k1⟩,?_,?_⟩
       ·show outCells F u (c::rcs) (ck::allCks rs)=_
        simp only [outCells,h3,k2]
        rfl
       ·simp only [packRS,List.headD_cons,List.tail_cons]
        exact .cons m1 k3
      ·cases h1
     ·rename_i cs cks
      obtain ⟨vs,rfl,m3⟩:=m2
      have hl:=outCells_len h1
      have hlen:=m3.len
      refine ⟨cs++rcs,vs++cvs,m3.append k1,?_,?_⟩
      ·have:allCks (.agg cks::rs)=cks++allCks rs:=by simp [allCks,RS.cks]
       rw [this]
       exact outCells_append h1 k2
      ·simp only [packRS]
       rw [List.take_left' (by omega),List.drop_left' (by omega)]
       exact .cons m1 k3
     ·cases h1
    ·cases h
   ·cases h
  ·cases h
 | [],_::_,_,_,_,h=>by simp [outAll] at h
 | _::_,[],_,_,_,h=>by simp [outAll] at h
def hits (F:Fr) (c:Cell) (k:CK):Option Nat:=match k,c with
 | .own _ _ _,.own id=>some id
 | .pv,.own id=>match lk F.rows id with
  | some r=>if r.kind=.shared then none else some id
  | none=>none
 | _,_=>none
theorem outCell_hits {u u':List Nat} {c:Cell} {k:CK} {p:PV} (h:outCell F u c k=some (p,u')):(hits F c k=none∧u'=u)∨∃id,hits F c k=some id∧id∉u∧u'=id::u:=by
 cases k with
 | pv =>
  simp only [outCell] at h
  split at h
  ·rename_i id
   split at h
   ·rename_i r hr
    split at h
    ·rename_i hk;injection h with h;injection h with _ h;exact .inl ⟨by simp [hits,hr,hk],h.symm⟩
    ·rename_i hk
     split at h
     ·rename_i hu;injection h with h;injection h with _ h;exact .inr ⟨id,by simp [hits,hr,hk],by simpa using hu,h.symm⟩
     ·cases h
   ·cases h
  ·rename_i hne
   split at h
   ·injection h with h;injection h with _ h
    refine .inl ⟨?_,h.symm⟩
    cases c<;>first | rfl | exact (hne _ rfl).elim
   ·cases h
 | sc =>
  simp only [outCell] at h
  split at h
  ·injection h with h;injection h with _ h;exact .inl ⟨by cases c<;>rfl,h.symm⟩
  ·cases h
 | own deep e sz =>
  simp only [outCell] at h
  split at h
  ·split at h
   ·injection h with h;injection h with _ h;exact .inl ⟨rfl,h.symm⟩
   ·cases h
  ·rename_i id
   split at h
   ·split at h
    ·rename_i hc;injection h with h;injection h with _ h;exact .inr ⟨id,rfl,by simpa using hc.2.2.2,h.symm⟩
    ·cases h
   ·cases h
  ·cases h
def hitAt (F:Fr) (cs:List Cell) (ks:List CK) (i:Nat):Option Nat:=match cs[i]?,ks[i]? with
 | some c,some k=>hits F c k
 | _,_=>none
theorem outCells_uniq:∀{cs:List Cell} {ks:List CK} {u u':List Nat} {ps:List PV},outCells F u cs ks=some (ps,u')→(∀i id,hitAt F cs ks i=some id→id∉u)∧∀i j id,hitAt F cs ks i=some id→hitAt F cs ks j=some id→i=j
 | [],[],u,u',ps,h=>⟨fun i id e=>by simp [hitAt] at e,fun i j id e=>by simp [hitAt] at e⟩
 | c::cs,k::ks,u,u',ps,h=>by
  simp only [outCells] at h
  split at h
  ·rename_i p u1 e1
   split at h
   ·rename_i ps' u2 e2
    obtain ⟨h1,h2⟩:=outCells_uniq e2
    have hs:∀i,hitAt F (c::cs) (k::ks) (i+1)=hitAt F cs ks i:=fun i=>by simp [hitAt]
    have hz:hitAt F (c::cs) (k::ks) 0=hits F c k:=rfl
    have hsub:∀x,x∈u→x∈u1:=by
     intro x hx
     rcases outCell_hits e1 with ⟨_,e⟩ | ⟨id,_,_,e⟩<;>rw [e]<;>simp [hx]
    have h0:∀id,hits F c k=some id→id∉u∧id∈u1:=by
     intro id hid
     rcases outCell_hits e1 with ⟨e,_⟩ | ⟨id',e,hn,e'⟩
     ·rw [e] at hid;cases hid
     ·rw [e] at hid;injection hid with hid;subst hid;exact ⟨hn,by rw [e'];simp⟩
    refine ⟨fun i id e=>?_,fun i j id ei ej=>?_⟩
    ·cases i with
     | zero=>exact (h0 id (by rw [←hz];exact e)).1
     | succ i=>rw [hs] at e;exact fun hm=>h1 i id e (hsub id hm)
    ·cases i with
     | zero =>
      cases j with
      | zero=>rfl
      | succ j=>rw [hs] at ej;rw [hz] at ei;exact (h1 j id ej (h0 id ei).2).elim
     | succ i =>
      cases j with
      | zero=>rw [hs] at ei;rw [hz] at ej;exact (h1 i id ei (h0 id ej).2).elim
      | succ j=>rw [hs] at ei ej;rw [h2 i j id ei ej]
   ·cases h
  ·cases h
 | [],_::_,_,_,_,h=>by simp [outCells] at h
 | _::_,[],_,_,_,h=>by simp [outCells] at h
theorem outCells_at:∀{cs:List Cell} {ks:List CK} {u u':List Nat} {ps:List PV},outCells F u cs ks=some (ps,u')→∀{i:Nat} {c:Cell} {k:CK},cs[i]? = some c→ks[i]? = some k→∃u1 u2,outCell F u1 c k=some (atP ps i,u2)
 | c::cs,k::ks,u,u',ps,h,i,c',k',hc,hk=>by
  simp only [outCells] at h
  split at h
  ·rename_i p u1 e1
   split at h
   ·rename_i ps' u2 e2
    injection h with h;injection h with e3 e4;subst e3
    cases i with
    | zero=>simp at hc hk;subst hc;subst hk;exact ⟨u,u1,e1⟩
    | succ i =>
     obtain ⟨x,y,hxy⟩:=outCells_at e2 (by simpa using hc) (by simpa using hk)
     exact ⟨x,y,by simpa [atP] using hxy⟩
   ·cases h
  ·cases h
 | [],[],u,u',ps,h,i,c',k',hc,hk=>by simp at hc
 | [],_::_,_,_,_,h,_,_,_,_,_=>by simp [outCells] at h
 | _::_,[],_,_,_,h,_,_,_,_,_=>by simp [outCells] at h
def ownIdx (cs:List Cell) (ks:List CK) (id:Nat):Option Nat:=(List.range ks.length).find? fun i=>match ks[i]?,cs[i]? with
 | some (.own _ _ _),some (.own j)=>decide (j=id)
 | _,_=>false
def keepO (ks:List CK) (G:Gh) (i id x:Nat):Bool:=match ks[i]? with
 | some (.own true _ _)=>true
 | _=>match G.row id with | some v=>decide (v.ownBlock=some x) | none=>false
def outOwn (cs:List Cell) (ks:List CK) (G:Gh) (x:Nat):Option Nat:=match G.own x with
 | some id=>match ownIdx cs ks id with
  | some i=>if keepO ks G i id x=true then some i else none
  | none=>none
 | none=>none
theorem ownIdx_some {cs:List Cell} {ks:List CK} {id i:Nat} (h:ownIdx cs ks id=some i):i<ks.length∧∃deep e sz,ks[i]? = some (.own deep e sz)∧cs[i]? = some (.own id):=by
 have h1:=List.mem_of_find?_eq_some h
 have h2:=List.find?_some h
 refine ⟨List.mem_range.1 h1,?_⟩
 split at h2
 ·rename_i deep e sz j e1 e2
  have:j=id:=of_decide_eq_true h2
  subst this
  exact ⟨deep,e,sz,e1,e2⟩
 ·cases h2
theorem ownIdx_of {cs:List Cell} {ks:List CK} {u u':List Nat} {ps:List PV} (ho:outCells F u cs ks=some (ps,u')) {id i:Nat} {deep:Bool} {e:TypeId} {sz:Nat} (hk:ks[i]? = some (.own deep e sz)) (hc:cs[i]? = some (.own id)):ownIdx cs ks id=some i:=by
 have hi:i<ks.length:=by
  rcases Nat.lt_or_ge i ks.length with h' | h'
  ·exact h'
  ·simp [List.getElem?_eq_none h'] at hk
 cases hf:ownIdx cs ks id with
 | none =>
  have:=List.find?_eq_none.1 hf i (List.mem_range.2 hi)
  simp [hk,hc] at this
 | some j =>
  obtain ⟨_,d',e',s',h1,h2⟩:=ownIdx_some hf
  have:=(outCells_uniq ho).2 i j id (by simp [hitAt,hc,hk,hits]) (by simp [hitAt,h1,h2,hits])
  rw [this]
theorem ownIdx_pv {cs:List Cell} {ks:List CK} {u u':List Nat} {ps:List PV} (ho:outCells F u cs ks=some (ps,u')) {id i:Nat} {r:Row} (hk:ks[i]? = some .pv) (hc:cs[i]? = some (.own id)) (hr:lk F.rows id=some r) (hn:r.kind≠.shared):ownIdx cs ks id=none:=by
 cases hf:ownIdx cs ks id with
 | none=>rfl
 | some j =>
  obtain ⟨_,d',e',s',h1,h2⟩:=ownIdx_some hf
  have:=(outCells_uniq ho).2 i j id (by simp [hitAt,hc,hk,hits,hr,hn]) (by simp [hitAt,h1,h2,hits])
  subst this
  rw [hk] at h1
  cases h1
theorem RepCs.get {G:Gh} {w:World}:∀{cs:List Cell} {vs:List Value} {i:Nat} {v:Value},RepCs G w cs vs→vs[i]? = some v→∃c,cs[i]? = some c∧RepC G w c v
 | [],vs,i,v,h,e=>by have:vs=[]:=h;subst this;simp at e
 | c::cs,vs,i,v,⟨u,r,e,h1,h2⟩,hv=>by
  subst e
  cases i with
  | zero=>simp at hv;subst hv;exact ⟨c,rfl,h1⟩
  | succ i=>obtain ⟨c',k1,k2⟩:=RepCs.get h2 (by simpa using hv);exact ⟨c',by simpa using k1,k2⟩
theorem post_ok (hS0:∀x,w0.S x→x<w0.w.heap.size) (hR:Rel w0 G F a w) {rcs:List Cell} {cvs:List Value} {sg:List RS} {out:List PV} {u u':List Nat} (hrc:RepCs G w rcs cvs) (ho:outCells F u rcs (allCks sg)=some (out,u')) (hsc:scs (allCks sg) out) :
 ∃S' no,Post sg out w0.S w0.w (resV (packRS sg cvs)) w S' no cvs:=by
 obtain ⟨l1,l2⟩:=outCells_len ho
 have l3:=hrc.len
 have hno:∀x,G.own x=none→outOwn rcs (allCks sg) G x=none:=fun x hx=>by simp [outOwn,hx]
 refine ⟨fun x=>w0.S x∨G.S x∨(G.own x≠none∧outOwn rcs (allCks sg) G x=none),outOwn rcs (allCks sg) G,rfl,hR.below,fun x hx=>.inl hx,fun x hx=>?_,fun x i hx=>?_,by omega,l2,fun i ck v hck hv=>?_,fun x i hx=>?_⟩
 rotate_left 3
 ·unfold outOwn at hx
  split at hx
  ·rename_i id hid
   exact hR.wr x id hid
  ·cases hx
 rotate_right 3
 ·have hs:=hR.below.size
  rcases hx with hx | hx | hx
  ·have h1:=hS0 x hx
   refine ⟨hno x ?_,by omega,.inl hx⟩
   cases h:G.own x with
   | none=>rfl
   | some id=>have:=(hR.own x id h).1;omega
  ·have h1:=hR.stb x hx
   exact ⟨hno x h1.1,h1.2,hR.sub x hx⟩
  ·refine ⟨hx.2,?_⟩
   cases h:G.own x with
   | none=>exact absurd h hx.1
   | some id=>have:=hR.own x id h;exact ⟨this.2,.inr this.1⟩
 ·unfold outOwn at hx
  split at hx
  ·rename_i id hid
   have h1:=hR.own x id hid
   split at hx
   ·rename_i j hj
    split at hx
    ·injection hx with hx
     subst hx
     exact ⟨h1.1,h1.2,(ownIdx_some hj).1⟩
    ·cases hx
   ·cases hx
  ·cases hx
 ·obtain ⟨c,hc,hcv⟩:=hrc.get hv
  obtain ⟨u1,u2,hout⟩:=outCells_at ho hc hck
  have hGS:∀{ps:List PV} {vs:List Value},RepS G.S w ps vs→RepS (fun x=>w0.S x∨G.S x∨(G.own x≠none∧outOwn rcs (allCks sg) G x=none)) w ps vs:=fun h=>h.carry (fun x hx=>.inr (.inl hx)) fun _ _=>rfl
  cases ck with
  | pv =>
   show RepS _ w [atP out i] [v]
   simp only [outCell] at hout
   split at hout
   ·rename_i id
    split at hout
    ·rename_i r hr
     have hok:=hR.rows id r v hr hcv
     split at hout
     ·rename_i hk
      injection hout with hout;injection hout with hout _
      rw [←hout]
      unfold RowOK at hok
      rw [hk] at hok
      exact hGS hok
     ·rename_i hk
      split at hout
      ·injection hout with hout;injection hout with hout _
       rw [←hout]
       have hnone:=ownIdx_pv ho hck hc hr hk
       refine (RowOK.shared hR hok).carry (fun x hx=>?_) fun _ _=>rfl
       rcases hx with hx | hx
       ·exact .inr (.inl hx)
       ·exact .inr (.inr ⟨by rw [hx];simp,by simp [outOwn,hx,hnone]⟩)
      ·cases hout
    ·cases hout
   ·rename_i hne
    split at hout
    ·rename_i p hp
     injection hout with hout;injection hout with hout _
     rw [←hout]
     refine hGS ?_
     cases c<;>simp only [cellPV] at hp<;>first | (exact (hne _ rfl).elim) | (cases hp;done) | skip
     ·injection hp with hp;subst hp;exact hcv
     ·injection hp with hp;subst hp;have:v=.slice none 0 0:=hcv;subst this;exact ⟨[],.lnil .nil,by simp⟩
     ·injection hp with hp;subst hp;have:v=.bool _:=hcv;subst this;exact RepS.bool
    ·cases hout
  | sc =>
   show RepS _ w [atP out i] [v]
   simp only [outCell] at hout
   split at hout
   ·rename_i p hp
    injection hout with hout;injection hout with hout _
    obtain ⟨N,h1,h2⟩:=scalPV_rep hp hcv
    have hfl:p.flat=true:=by
     have hz:(CK.sc,p)∈(allCks sg).zip out:=by
      have hlt:i<out.length:=by
       rw [l2]
       rcases Nat.lt_or_ge i (allCks sg).length with h' | h'
       ·exact h'
       ·simp [List.getElem?_eq_none h'] at hck
      refine List.mem_iff_getElem?.2 ⟨i,?_⟩
      rw [List.getElem?_zip_eq_some]
      refine ⟨hck,?_⟩
      rw [hout]
      simp [atP,List.getD,List.getElem?_eq_getElem hlt]
     exact hsc _ hz rfl
    have:N=[]:=RepVals.flat_nil (fun q hq=>by simp at hq;rw [hq];exact hfl) h1
    subst this
    rw [←hout]
    exact ⟨[],h1,by simp⟩
   ·cases hout
  | own deep e sz =>
   show RowOK ⟨_,outOwn rcs (allCks sg) G,fun _=>none,fun _=>none⟩ w i ⟨if deep then .deep else .flat,e,sz,atP out i⟩ v
   have hns:(if deep=true then RK.deep else RK.flat)≠.shared:=by cases deep<;>simp
   simp only [outCell] at hout
   split at hout
   ·split at hout
    ·rename_i hcond
     injection hout with hout;injection hout with hout _
     rw [←hout]
     have:v=.slice none 0 0:=hcv
     subst this
     refine rowOK_mk hns ⟨Nat.pos_of_ne_zero hcond.2.2,[],[],[],rfl,by simp,.nil,World.ownsRow_nil _ _ _ _,fun b hb=>by simp [Value.ownBlock] at hb,?_⟩
     split<;>simp
    ·cases hout
   ·rename_i id
    split at hout
    ·rename_i r hr
     split at hout
     ·rename_i hcond
      obtain ⟨he,hsz,hkd,_⟩:=hcond
      injection hout with hout;injection hout with hout _
      rw [←hout]
      have hok:=hR.rows id r v hr hcv
      have hidx:=ownIdx_of ho hck hc
      unfold RowOK at hok
      split at hok
      ·rename_i hk;rw [hk] at hkd;simp at hkd
      ·obtain ⟨hs,rows,xs,N,hre,hl,hvv,hown,hb,hkk⟩:=hok
       have hkeep:∀b,v.ownBlock=some b→keepO (allCks sg) G i id b=true:=by
        intro b hb'
        have hrow:G.row id=some v:=hcv
        unfold keepO
        split
        ·rfl
        ·simp [hrow,hb']
       refine rowOK_mk hns ⟨by show 0<sz;rw [←hsz];exact hs,rows,xs,N,by rw [hre,hsz],by rw [←hsz];exact hl,hvv,by rw [←hsz,←he];exact hown,fun b hb'=>?_,?_⟩
       ·show outOwn rcs (allCks sg) G b=some i
        simp [outOwn,hb b hb',hidx,hkeep b hb']
       ·cases deep with
        | true =>
         have hd:r.kind=.deep:=by rcases hkd with h | h;exact h;cases h.2
         rw [if_pos hd] at hkk
         simp only [if_true]
         refine ⟨hkk.1,fun x hx=>⟨?_,(hkk.2 x hx).2⟩⟩
         show outOwn rcs (allCks sg) G x=some i
         simp [outOwn,(hkk.2 x hx).1,hidx,keepO,hck]
        | false =>
         have hne:¬(RK.flat=RK.deep):=by intro h;cases h
         simp only [Bool.false_eq_true,if_false,hne]
         intro x hx
         by_cases hd:r.kind=.deep
         ·rw [if_pos hd] at hkk
          obtain ⟨q1,q2⟩:=hkk.2 x hx
          have hrow:G.row id=some v:=hcv
          exact .inr (.inr ⟨by rw [q1];simp,by simp [outOwn,q1,hidx,keepO,hck,hrow,q2]⟩)
         ·rw [if_neg hd] at hkk
          exact .inr (.inl (hkk x hx))
     ·cases hout
    ·cases hout
   ·cases hout
theorem RepAs.len {S:Nat→Prop}:∀{av:List AV} {vs:List Value},RepAs S w av vs→av.length=vs.length
 | [],_,h=>by have:=h;subst this;rfl
 | _::_,_,⟨_,_,e,_,h⟩=>by subst e;simp [RepAs.len h]
theorem ro_caps {S:Nat→Prop} {no:Nat→Option Nat} {rw':Nat→Option Value} {bx:Nat→Option Nat}:∀{caps:List RO} {vs:List Value},RepA.ro S w caps vs→RepCaps ⟨S,no,rw',bx⟩ w (caps.map .ro) vs
 | [],_,h=>h
 | _::_,_,⟨v,r,e,h1,h2⟩=>⟨v,r,e,h1,ro_caps h2⟩
theorem init_rep {S:Nat→Prop} {no:Nat→Option Nat} {rw':Nat→Option Value} {bx:Nat→Option Nat}:∀{av:List AV} {vs:List Value} {i t:Nat} {tv:TV},RepAs S w av vs→lk (initT i av) t=some tv→∃v,i≤t∧vs[t-i]? = some v∧RepT ⟨S,no,rw',bx⟩ w tv v
 | [],vs,i,t,tv,_,h=>by simp [initT,lk] at h
 | x::av,vs,i,t,tv,⟨v,r,e,h1,h2⟩,h=>by
  subst e
  have next:∀{y:TV},lk ((i,y)::initT (i+1) av) t=some tv→RepT ⟨S,no,rw',bx⟩ w y v→∃u,i≤t∧(v::r)[t-i]? = some u∧RepT ⟨S,no,rw',bx⟩ w tv u:=by
   intro y h9 hy
   simp only [lk_cons] at h9
   split at h9
   ·rename_i hit
    injection h9 with h9
    rw [←h9,←hit]
    exact ⟨v,Nat.le_refl _,by simp,hy⟩
   ·obtain ⟨u,k1,k2,k3⟩:=init_rep h2 h9
    refine ⟨u,by omega,?_,k3⟩
    rw [show t-i=(t-(i+1))+1 by omega]
    simpa using k2
  cases x with
  | one p=>exact next (y:=.one (.pv p)) (by simpa [initT] using h) h1
  | agg ps =>
   obtain ⟨us,rfl,N,k1,k2⟩:=h1
   exact next (y:=.agg (ps.map .pv)) (by simpa [initT] using h) ⟨us,rfl,RepCs.of_vals k1 k2⟩
  | fn f caps =>
   obtain ⟨us,rfl,k1⟩:=h1
   exact next (y:=.one (.fn f (caps.map .ro))) (by simpa [initT] using h) ⟨us,rfl,ro_caps k1⟩
  | ro c=>cases c with
   | cells cells=>exact next (y:=.one (.sptr cells)) (by simpa [initT] using h) h1
   | fn f q=>exact next (y:=.one (.sfn f q)) (by simpa [initT] using h) h1
  | nil e sz=>exact next (y:=.one (.nil e sz)) (by simpa [initT] using h) h1
theorem run_results {rs:Array ResultVar} {vs:List Value} (h:ResAll P a w rs.toList vs) (g:ResultVar→Sem Value) (K:Array Value→Sem Value)
 (hg:∀r v,(resRun a r).run P w=.ok v w→(g r).run P w=.ok v w) :
 ((rs.mapM g >>= K):Sem Value).run P w=(K vs.toArray).run P w:=by
 have hm:∀{l:List ResultVar} {vs:List Value},ResAll P a w l vs→(l.mapM g).run P w=.ok vs w:=by
  intro l vs h
  induction h with
  | nil=>simp
  | cons h1 _ ih =>
   rw [List.mapM_cons]
   simp only [Sem.run_bind,hg _ _ h1,Result.andThen_ok,ih,Sem.run_pure]
 rw [Sem.run_bind,Array.mapM_eq_mapM_toList]
 have h:=hm h
 simp [h]
theorem runs_ok (hT : TabOK P T) (hC : OracOK P T C) {f : FuncId} {fn : Func} {keep : List (Nat × Bool)} {sg : List RS} {av : List AV} {out : List PV} (hf : P.funcs[f]? = some fn) (hname : (fn.name == "runtime.NumGoroutine") = false) (hlen : av.length ≤ fn.ntmps)
 (h:runs C T keep fn sg av (fun o=>o=out)):CallOK P sg f av out:=by
 unfold runs at h
 split at h
 ·rename_i c hbody
  refine ⟨⟨fn,hf,hname,by rw [hbody];rfl⟩,fun w S vals hE hS hv=>?_⟩
  refine calls_of_wp hf hbody ?_
  have hl:=hv.len
  let w0:Base:=⟨w,S,hE,fun _ _=>False⟩
  have hSt:St w0 ⟨S,fun _=>none,fun _=>none,fun _=>none⟩ ⟨initT 0 av,[],[],0,fn.ntmps,[]⟩ { tmps:=vals.toArray++Array.replicate (fn.ntmps-vals.toArray.size) undef,defers:=[] } w:=by
   refine ⟨⟨.refl _ _,rfl,by simp;omega,fun t tv e=>?_,fun k cells b e=>(nomatch e),fun id r v e=>(nomatch e),fun x hx=>⟨rfl,hS x hx⟩,fun x id e=>(nomatch e),fun id v e=>(nomatch e),fun x hx=>.inl hx,fun x id e=>(nomatch e),fun tv v h=>h.elim⟩,
    fun id _=>⟨rfl,rfl,fun x=>by simp⟩,fun id r e=>(nomatch e),fun id r e=>(nomatch e),fun id r c e=>(nomatch e)⟩
   obtain ⟨v,h1,h2,h3⟩:=init_rep (no:=fun _=>none) (rw':=fun _=>none) (bx:=fun _=>none) hv e
   have hlt:t<vals.length:=by
    rcases Nat.lt_or_ge t vals.length with h' | h'
    ·exact h'
    ·rw [Nat.sub_zero,List.getElem?_eq_none h'] at h2;cases h2
   refine ⟨v,?_,h3⟩
   rw [Array.getElem?_append_left (by simpa using hlt)]
   simpa using h2
  have hend:∀(F:Fr) (G:Gh) (a':Act) (w':World),St w0 G F a' w'→(match outAll T F [] fn.results.toList sg with | some (o,_)=>scs (allCks sg) o∧o=out | none=>False) →
   a'.defers=[]∧∃v,(results fn a'.tmps).run P w'=.ok v w'∧∃v' S' no cvs,Ending.returned v=.returned v'∧Post sg out S w v' w' S' no cvs:=by
   intro F G a' w' hS' hk
   split at hk
   ·rename_i o u ho
    obtain ⟨hsc,rfl⟩:=hk
    obtain ⟨rcs,cvs,k1,k2,k3⟩:=outAll_ok hT hS'.rel ho
    obtain ⟨S',no,hp⟩:=post_ok (w0:=w0) hS hS'.rel k1 k2 hsc
    refine ⟨hS'.rel.defers,resV (packRS sg cvs),?_,_,S',no,cvs,rfl,hp⟩
    unfold results
    refine (run_results (P:=P) (w:=w') k3 _ _ fun r v hr=>?_).trans ?_
    ·cases r<;>exact hr
    ·match hq:packRS sg cvs with
     | []=>rfl
     | [v]=>rfl
     | v1::v2::vs=>rfl
   ·exact hk.elim
  refine sx_sound hT hC keep c h hSt fun o F G a' w' hS' hk=>?_
  cases o with
  | norm=>exact hend F G a' w' hS' hk
  | ret=>exact hend F G a' w' hS' hk
  | exit i=>exact hk.elim
 ·exact h.elim
theorem resAll_ok (hT:TabOK P T) (hR:Rel w0 G F a w):∀{rvs:List ResultVar} {tvs:List TV},resAll T F rvs=some tvs→∃vs:List Value,ResAll P a w rvs vs∧RepT.RepTs G w tvs vs
 | [],tvs,h=>by simp only [resAll] at h;injection h with h;subst h;exact ⟨[],.nil,rfl⟩
 | rv::rvs,tvs,h=>by
  simp only [resAll] at h
  split at h
  ·rename_i tv ts e1 e2
   injection h with h
   subst h
   obtain ⟨v,k1,k2⟩:=resTV_ok hT hR e1
   obtain ⟨vs,k3,k4⟩:=resAll_ok hT hR e2
   exact ⟨v::vs,.cons k1 k3,v,vs,rfl,k2,k4⟩
  ·cases h
theorem resOne_rep {tvs:List TV} {vs:List Value} (h:RepT.RepTs G w tvs vs):RepT G w (resOne tvs) (resV vs):=by
 cases tvs with
 | nil =>
  have:vs=[]:=h
  subst this
  intro b hb
  cases hb
 | cons t ts =>
  obtain ⟨v,r,e,h1,h2⟩:=h
  subst e
  cases ts with
  | nil =>
   have:r=[]:=h2
   subst this
   exact h1
  | cons t' ts' =>
   obtain ⟨v',r',e',h3,h4⟩:=h2
   subst e'
   exact ⟨v::v'::r',rfl,v,_,rfl,h1,v',r',rfl,h3,h4⟩
theorem inl_end (hT:TabOK P T) (fn:Func) {F':Fr} {G':Gh} {a':Act} {w':World} {k:TV→Fr→Prop} (hS':St w0 G' F' a' w') (hk:match resAll T F' fn.results.toList with | some tvs=>k (resOne tvs) F' | none=>False) :
 a'.defers=[]∧∃v,(results fn a'.tmps).run P w'=.ok v w'∧∃v',Ending.returned v=.returned v'∧∃tv F'' G'' a'',St w0 G'' F'' a'' w'∧RepT G'' w' tv v'∧k tv F'':=by
 split at hk
 ·rename_i tvs hr
  obtain ⟨vs,k1,k2⟩:=resAll_ok hT hS'.rel hr
  refine ⟨hS'.rel.defers,resV vs,?_,_,rfl,resOne tvs,F',G',a',hS',resOne_rep k2,hk⟩
  unfold results
  refine (run_results (P:=P) (w:=w') k1 _ _ fun r v hr=>?_).trans ?_
  ·cases r<;>exact hr
  ·match hq:vs with
   | []=>rfl
   | [v]=>rfl
   | v1::v2::vs=>rfl
 ·exact hk.elim
end
end Go.Ev
