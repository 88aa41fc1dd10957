/- What each function hands back, in plain Lean, and that the laws answer true, part 2. -/
import Derived.Test.YtmhmcamcenidaaaGreatHum1
set_option linter.unusedVariables false
set_option linter.unusedSimpArgs false
set_option maxRecDepth 8000
set_option maxHeartbeats 16000000
namespace Go.Ev
open Go.Proofs
abbrev encI (sv cv fv:PV) (chv:PV) (now:Int) (path:List ByteArray) (z code:Int) (e:GEntry) (mv:Int) (zs:List Int) (k:GKnown) (c:GCache):List PV :=
 [strs path,I z,I code,.str e.Label,I e.Kind,I e.Value,I mv,I 0,.str ⟨#[]⟩,I 0,I 0,I 0,I 0,.str ⟨#[]⟩,I 0,I 0,I 0,I now,sv,cv,chv,fv,.list 23 [],.list 1 [],.list 1 [],.list 51 [],.list 1 [],.list 1 [],.list 1 [],.list 51 [],.list 1 [],ints zs,strs e.Path,chains k.Chains,.list 51 (k.Forks.map eFork),.list 23 (c.Lst.map eStored)]
theorem rowP_at {rows:List (List PV)} {i sz:Nat} {r:List PV} (h:rows[i]? = some r) (k:List PV→Prop):rowP sz (.list sz rows) i k↔k r:=by
 simp [rowP,h]
theorem look_ok {z:Int} {s:ByteArray} {now:Int}:∀{l:List GAnswer} {k:GKnown} {cs:List Int} {i j:Nat} {a:GAnswer},(sLook z s now k cs i l).2.2=some (j,a)→sAns z s a now=1
 | [],k,cs,i,j,a,h=>by cases h
 | b::r,k,cs,i,j,a,h=>by
  rw [sLook] at h
  split at h
  ·rename_i hc
   cases h
   unfold sExC at hc
   split at hc
   ·cases hc
   ·exact hc
  ·exact look_ok h
theorem ans_entry {z:Int} {s:ByteArray} {a:GAnswer} {now:Int} (h:sAns z s a now=1) (hf:a.Found=true):sIsEntry a.Entry=true:=by
 unfold sAns at h
 split at h
 ·cases h
 split at h
 ·cases h
 split at h
 ·cases h
 split at h
 ·cases h
 split at h
 ·cases h
 rename_i p _ _ _ _ hp
 unfold sProved at hp
 rw [if_pos hf] at hp
 split at hp
 ·simp only [Bool.not_eq_false,Bool.and_eq_true] at hp
  have:=hp.1
  unfold sCheckEntry at this
  simp only [Bool.and_eq_true] at this
  exact this.1
 ·cases hp rfl
theorem entry_path {e:GEntry} (h:sIsEntry e=true):e.Path.length≤4∧∀s∈e.Path,s.size≤8:=by
 unfold sIsEntry at h
 simp only [Bool.and_eq_true] at h
 have h:=h.2
 split at h
 ·simp only [Bool.and_eq_true,decide_eq_true_eq,List.length_eq_zero_iff] at h
  rw [h.2];simp
 split at h
 ·simp only [Bool.and_eq_true,decide_eq_true_eq,List.length_eq_zero_iff] at h
  rw [h.2];simp
 split at h
 ·simp only [Bool.and_eq_true] at h
  have:=isPath_PB h.2
  exact ⟨this.le,fun s hs=>label_le (this.lab s hs)⟩
 ·cases h
theorem sumN_le {α:Type} {f:α→Nat} {b:Nat}:∀{l:List α},(∀x∈l,f x≤b)→sumN f l≤l.length*b
 | [],_=>by simp [sumN]
 | x::l,h=>by
  have h1:=h x List.mem_cons_self
  have h2:=sumN_le (l:=l) fun y hy=>h y (List.mem_cons_of_mem _ hy)
  simp only [sumN,List.length_cons,Nat.add_mul,Nat.one_mul];omega
theorem path_small {p:List ByteArray} (h1:p.length≤8) (h2:∀s∈p,s.size≤8):p.length+sumN ByteArray.size p≤1048576:=by
 have:=sumN_le (f:=ByteArray.size) (b:=8) h2
 omega
theorem strs_app (p q:List ByteArray):strs (p++q.tail)=.list 1 (p.map rS++(q.map rS).tail):=by simp
theorem strs_tail (q:List ByteArray):strs q.tail=.list 1 (q.map rS).tail:=by simp
theorem take_map (q:List ByteArray):List.take q.length (List.map rS q)=List.map rS q:=List.take_of_length_le (by simp)
theorem flat_tail (q:List ByteArray):flatRows (.list 1 (q.map rS).tail):=by
 intro r hr p hp
 have:=List.mem_of_mem_tail hr
 obtain ⟨x,_,rfl⟩:=List.mem_map.1 this
 simp [rS] at hp
 subst hp
 rfl
theorem impl_round {ask:Int→ByteArray→List GAnswer} {now:Int} {sv cv fv chv:PV} (hask:∀z s,s.size≤1048576→∀k,call Qkg [.one sv,.one (I z),.one (.str s)] k=k [.list 21 ((ask z s).map eAnswer)])
 (hA:∀z s,∀a∈ask z s,mAnswer a≤1048576) (hL:∀z s,(ask z s).length≤4) (t:RSt) (ht:RI t) (K:List PV→Prop) {x0k} :
 Qki_r0 (encI sv cv fv chv now t.path t.z 0 zEntry t.mv t.zs t.k t.c) K x0k↔match sStep ask now t with
  | .inl o=>K (encI sv cv fv chv now [] 0 o.code o.e o.mv o.zs o.k o.c)
  | .inr t=>K (encI sv cv fv chv now t.path t.z 0 zEntry t.mv t.zs t.k t.c):=by
 obtain ⟨s,r,hp,hf,hs,hsl⟩:=ht.p.first
 have h0:t.path[0]? = some s:=by rw [hp];rfl
 have hpl:=ht.p.le
 have hpp:=ht.p.pos
 have hzs:t.zs.length+1<1073741824:=by have:=ht.zs;omega
 have hal:=ansL_le hA ht
 have e1:=impl_FromCache_b t.c t.z s ht.c
 have e2:=hask t.z s hs
 have hll:(sAnsL ask t).length≤1048576:=by have:=hL t.z (sFirstS t.path);simp [sAnsL];omega
 have e3:∀k,call Qjq [.agg (eKnown t.k),.one (.list 21 (eAnswer (sFrom t.c t.z s)::(ask t.z s).map eAnswer)),.one (I t.z),.one (.str s),.one (I now)] k=k (eLook (lookG (sLk ask now t))++[I (lookI (sLk ask now t))]):=by
  have:=impl_lookUp_b t.k (sAnsL ask t) t.z s now ht.k hll hal hs
  unfold sLk
  rw [hf]
  have hu:sAnsL ask t=sFrom t.c t.z s::ask t.z s:=by unfold sAnsL;rw [hf]
  rw [hu] at this ⊢
  exact this
 have hal4:1+(ask t.z s).length<1073741824:=by have:=hL t.z s;omega
 cases hl:(sLk ask now t).2.2 with
 | none =>
  have hG:eLook (lookG (sLk ask now t))++[I (lookI (sLk ask now t))]=eLook ⟨(sLk ask now t).1,false,zEntry,false,(sLk ask now t).2.1⟩++[I (-1)]:=by
   unfold lookG lookI
   generalize sLk ask now t=q at hl
   obtain ⟨k1,cs,o⟩:=q
   subst hl
   rfl
  rw [hG] at e3
  have hS:sStep ask now t=.inl ⟨(sLk ask now t).1,t.c,3,zEntry,t.zs++[t.z],t.mv⟩:=by
   unfold sStep sCa
   rw [hl]
  rw [hS]
  simp [-getElem?_pos,Qki_r0,h0,e1,e2,e3,hal4,hzs,hpp,take_ints,zEntry,encI]<;>rfl
 | some ia =>
  obtain ⟨i,a⟩:=ia
  have hG:eLook (lookG (sLk ask now t))++[I (lookI (sLk ask now t))]=eLook ⟨(sLk ask now t).1,a.Found,a.Entry,true,(sLk ask now t).2.1⟩++[I i]:=by
   unfold lookG lookI
   generalize sLk ask now t=q at hl
   obtain ⟨k1,cs,o⟩:=q
   subst hl
   rfl
  rw [hG] at e3
  have hlk:(sLook t.z s now t.k [] 0 (sFrom t.c t.z s::ask t.z s)).2.2=some (i,a):=by
   have:sLk ask now t=sLook t.z s now t.k [] 0 (sFrom t.c t.z s::ask t.z s):=by unfold sLk sAnsL;rw [hf]
   rw [←this];exact hl
  have hat:=(look_at hlk).2.1
  rw [Nat.sub_zero] at hat
  have hok:=look_ok hlk
  have hCa:sCa ask now t=sKeep t.c t.z s a now:=by unfold sCa;rw [hl,hf]
  have hma:mAnswer a≤1048576:=hal a (by
   have hu:sAnsL ask t=sFrom t.c t.z s::ask t.z s:=by unfold sAnsL;rw [hf]
   rw [hu];exact List.mem_of_getElem? hat)
  have e4:=impl_KeepAnswer_b t.c t.z s a now ht.c hs hma
  have hrow:(eAnswer (sFrom t.c t.z s)::(ask t.z s).map eAnswer)[i]? = some (eAnswer a):=by
   have:=congrArg (Option.map eAnswer) hat
   rw [←List.getElem?_map] at this
   simpa using this
  have hrow2:=rowP_at (sz:=21) hrow
  have hil:i<(ask t.z s).length+1:=by have:=lt_of_get hat;simpa using this
  have e6:=Qdn_n a.Entry (answer_le hma).2.1
  have hmv:IntKind.i64.wrap (t.mv+1)=t.mv+1:=wr_eq (by have:=ht.mv0;omega) (by have:=ht.mv3;omega)
  have e7:=Clone_string_n a.Entry.Path (by have:=(answer_le hma).2.1;unfold mEntry at this;omega)
  unfold sStep
  rw [hl,hCa]
  simp only
  cases hF:a.Found with
  | false =>
   rw [hF] at e3
   simp [-getElem?_pos,Qki_r0,h0,e1,e2,e3,e4,hrow2,hil,hal4,hzs,hpp,take_ints,zEntry,encI]<;>rfl
  | true =>
   rw [hF] at e3
   have hE:=entry_path (ans_entry hok hF)
   have e5:∀k,call Qfo [.one (.list 1 (a.Entry.Path.map rS++(t.path.map rS).tail))] k=k [.bool (sIsPath (a.Entry.Path++t.path.tail))]:=by
    have:=Qfo_n (a.Entry.Path++t.path.tail) (path_small (by simp;omega) (fun x hx=>by
     rcases List.mem_append.1 hx with hx | hx
     ·exact hE.2 x hx
     ·exact label_le (ht.p.lab x (List.mem_of_mem_tail hx))))
    intro k
    rw [←this k,strs_app]
   have hb:a.Entry.Path.length+(t.path.length-1)<1073741824:=by omega
   by_cases hK:a.Entry.Kind=3
   ·have hKt:=eq_true hK
    by_cases h3:3≤t.mv
    ·simp [-getElem?_pos,Qki_r0,h0,e1,e2,e3,e4,hrow2,hil,hal4,hzs,hpp,take_ints,zEntry,encI,strs_app,strs_tail,take_map,flat_tail,hb,e5,e7,hKt,h3]<;>rfl
    ·cases hP:sIsPath (a.Entry.Path++t.path.tail) with
     | false=>simp [-getElem?_pos,Qki_r0,h0,e1,e2,e3,e4,hrow2,hil,hal4,hzs,hpp,take_ints,zEntry,encI,strs_app,strs_tail,take_map,flat_tail,hb,e5,e7,hKt,h3,hP]<;>rfl
     | true=>simp [-getElem?_pos,Qki_r0,h0,e1,e2,e3,e4,hrow2,hil,hal4,hzs,hpp,take_ints,zEntry,encI,strs_app,strs_tail,take_map,flat_tail,hb,e5,e7,hKt,h3,hP,hmv]<;>rfl
   ·have hKf:=eq_false hK
    by_cases hr:t.path.length=1
    ·simp [-getElem?_pos,Qki_r0,h0,e1,e2,e3,e4,hrow2,hil,hal4,hzs,hpp,take_ints,zEntry,encI,strs_app,strs_tail,take_map,flat_tail,hb,e6,hKf,hr]<;>rfl
    ·have hr1:¬(t.path.length-1=0):=by omega
     have hr2:¬(t.path.length≤1):=by omega
     have hr3:¬(((t.path.length-1:Nat):Int)=0):=by omega
     by_cases h2:a.Entry.Kind=2
     ·have h2t:=eq_true h2
      simp [-getElem?_pos,Qki_r0,h0,e1,e2,e3,e4,hrow2,hil,hal4,hzs,hpp,take_ints,zEntry,encI,strs_app,strs_tail,take_map,flat_tail,hb,hKf,h2t,hr1,hr2,hr3]<;>rfl
     ·have h2f:=eq_false h2
      simp [-getElem?_pos,Qki_r0,h0,e1,e2,e3,e4,hrow2,hil,hal4,hzs,hpp,take_ints,zEntry,encI,strs_app,strs_tail,take_map,flat_tail,hb,hKf,h2f,hr1,hr2,hr3]<;>rfl
end Go.Ev
set_option linter.unusedVariables false
set_option linter.unusedSimpArgs false
set_option maxRecDepth 8000
set_option maxHeartbeats 16000000
namespace Go.Ev
open Go.Proofs
theorem lp_walk {R:(List PV→Prop)→List PV→Prop} {ask:Int→ByteArray→List GAnswer} {now:Int} (V:RSt→List PV) (fin:ROut→Prop) (hA:∀z s,∀a∈ask z s,mAnswer a≤1048576)
 (h:∀t,RI t→∀K,R K (V t)↔match sStep ask now t with | .inl o=>fin o | .inr t'=>K (V t')):∀(n:Nat) (t:RSt),RI t→mu t<n→(lp R (V t)↔fin (sWalk ask now n t))
 | 0,t,_,hn=>by omega
 | n+1,t,ht,hn=>by
  have hs:=h t ht
  rw [sWalk]
  cases hq:sStep ask now t with
  | inl o =>
   exact itP_mono_end fun K=>by rw [hs K,hq]
  | inr t' =>
   obtain ⟨h1,h2,_⟩:=step_ok hA ht hq
   refine (lp_step fun K=>by rw [hs K,hq]).trans ?_
   exact lp_walk V fin hA h n t' h1 (by omega)
theorem step_code {ask:Int→ByteArray→List GAnswer} {now:Int} {t:RSt} {o:ROut} (h:sStep ask now t=.inl o):¬o.code=0:=by
 unfold sStep at h
 repeat' split at h
 all_goals first | (cases h;simp;done) | (cases h;done)
theorem lp_walkI {R:(List PV→Prop)→List PV→Prop} {ask:Int→ByteArray→List GAnswer} {now:Int} (V:RSt→List PV) (W:ROut→List PV) (fin:ROut→Prop) (hA:∀z s,∀a∈ask z s,mAnswer a≤1048576)
 (h:∀t,RI t→∀K,R K (V t)↔match sStep ask now t with | .inl o=>K (W o) | .inr t'=>K (V t')) (hW:∀o,¬o.code=0→∀K,R K (W o)↔fin o):∀(n:Nat) (t:RSt),RI t→mu t<n→(lp R (V t)↔fin (sWalk ask now n t))
 | 0,t,_,hn=>by omega
 | n+1,t,ht,hn=>by
  have hs:=h t ht
  rw [sWalk]
  cases hq:sStep ask now t with
  | inl o =>
   refine (lp_step fun K=>by rw [hs K,hq]).trans ?_
   exact itP_mono_end fun K=>hW o (step_code hq) K
  | inr t' =>
   obtain ⟨h1,h2,_⟩:=step_ok hA ht hq
   refine (lp_step fun K=>by rw [hs K,hq]).trans ?_
   exact lp_walkI V W fin hA h hW n t' h1 (by omega)
def sRes (ask:Int→ByteArray→List GAnswer) (now:Int) (k:GKnown) (c:GCache) (root:Int) (path:List ByteArray):ROut :=
 if sIsPath path=true then sWalk ask now 64 ⟨k,c,root,path,0,[]⟩ else ⟨k,c,6,zEntry,[],0⟩
theorem start_RI {k:GKnown} {c:GCache} {root:Int} {path:List ByteArray} (hk:KB k) (hc:CB c) (hp:sIsPath path=true):RI ⟨k,c,root,path,0,[]⟩∧mu ⟨k,c,root,path,0,[]⟩<64:=by
 have hb:=isPath_PB hp
 have:=hb.le
 have hm:mu ⟨k,c,root,path,0,[]⟩<64:=by unfold mu;simp;omega
 exact ⟨⟨hk,hc,hb,by simp,by simp,by simp;omega⟩,hm⟩
abbrev oRes (o:ROut):List PV:=eTrace ⟨o.k,o.code,o.e,o.zs,o.mv⟩++eCache o.c
theorem impl_ResolveFrom_b {ask:Int→ByteArray→List GAnswer} {now:Int} {sv:PV} (hask:∀z s,s.size≤1048576→∀k,call Qkg [.one sv,.one (I z),.one (.str s)] k=k [.list 21 ((ask z s).map eAnswer)])
 (hA:∀z s,∀a∈ask z s,mAnswer a≤1048576) (hL:∀z s,(ask z s).length≤4) (k0:GKnown) (c0:GCache) (root:Int) (path:List ByteArray) (hk:KB k0) (hc:CB c0) (hpa:path.length+sumN ByteArray.size path≤1048576) (k) :
 call Qki [.agg (eKnown k0),.agg (eCache c0),.one sv,.one (I root),.one (strs path),.one (I now)] k=k (oRes (sRes ask now k0 c0 root path)):=call_of (fun k=>by
 have e1:=impl_copyCache_b c0 hc
 have e2:=impl_copyKnown_b k0 hk
 have e3:=Qfo_n path hpa
 unfold sRes
 cases hp:sIsPath path with
 | false=>simp [Qki,e1,e2,e3,hp,zEntry]<;>rfl
 | true =>
  obtain ⟨hRI,hmu⟩:=start_RI (root:=root) hk hc hp
  rw [if_pos rfl]
  simp only [Qki,un,cur0]
  simp only [e1,e2,e3,hp,unP_not,atP_zero,atP_succ,iteP_eq,Bool.not_true,Bool.false_eq_true,if_false]
  refine lp_walkI (ask:=ask) (now:=now) (fun t=>encI sv (.list 23 (c0.Lst.map eStored)) (.list 51 (k0.Forks.map eFork)) (chains k0.Chains) now t.path t.z 0 zEntry t.mv t.zs t.k t.c)
   (fun o=>encI sv (.list 23 (c0.Lst.map eStored)) (.list 51 (k0.Forks.map eFork)) (chains k0.Chains) now [] 0 o.code o.e o.mv o.zs o.k o.c) (fun o=>k (oRes o)) hA
   (fun t ht K=>impl_round hask hA hL t ht K) (fun o ho K=>?_) 64 _ hRI hmu
  simp [Qki_r0,encI,ho]) k
abbrev encS (sv:PV) (now:Int) (t:RSt):List PV :=
 [sv,I now,I t.z,strs t.path,.list 23 (t.c.Lst.map eStored),chains t.k.Chains,.list 51 (t.k.Forks.map eFork),I 6,.str ⟨#[]⟩,I 0,I 0,.list 1 [],I t.mv,.list 1 [],.list 51 [],I 0,.str ⟨#[]⟩,I 0,I 0,.list 1 [],I 0,.list 23 [],.list 1 [],ints t.zs]
theorem elemP_at {rows:List (List PV)} {i sz:Nat} {r:List PV} (h:rows[i]? = some r) (k:List PV→Prop):elemP sz (.list sz rows) (I (i:Int)) k↔k r:=by
 simp [elemP,h]
theorem Qjx_c (k1:GKnown) (e:GEntry) (f d:Bool) (cs:List Int) (h:mEntry e≤1048576) (k):call Qjx [.agg [chains k1.Chains,.list 51 (k1.Forks.map eFork),.bool f,.str e.Label,I e.Kind,I e.Value,strs e.Path,.bool d,ints cs]] k=k (eEntry (sBel ⟨k1,f,e,d,cs⟩)++[.bool (d&&f)]):=spec_BelievedOf_b ⟨k1,f,e,d,cs⟩ h k
theorem Qjy_c (k1:GKnown) (e:GEntry) (f d:Bool) (cs:List Int) (k):call Qjy [.agg [chains k1.Chains,.list 51 (k1.Forks.map eFork),.bool f,.str e.Label,I e.Kind,I e.Value,strs e.Path,.bool d,ints cs]] k=k [.bool (d&&!f)]:=spec_IsAbsent_b ⟨k1,f,e,d,cs⟩ k
theorem spec_ResolveFrom_b {ask:Int→ByteArray→List GAnswer} {now:Int} {sv:PV} (hask:∀z s,s.size≤1048576→∀k,call Qjv [.one sv,.one (I z),.one (.str s)] k=k [.list 21 ((ask z s).map eAnswer)])
 (hA:∀z s,∀a∈ask z s,mAnswer a≤1048576) (hL:∀z s,(ask z s).length≤4) (k0:GKnown) (c0:GCache) (root:Int) (path:List ByteArray) (hk:KB k0) (hc:CB c0) (hpa:path.length+sumN ByteArray.size path≤1048576) (k) :
 call Qjz [.agg (eKnown k0),.agg (eCache c0),.one sv,.one (I root),.one (strs path),.one (I now)] k=k (oRes (sRes ask now k0 c0 root path)):=call_of (fun k=>by
 have q1:=spec_l26Copy_b c0 hc
 have q2:=spec_l22Copy_b k0 hk
 have q3:=Qcp_n path hpa
 have q4:=Qbh_n path (by omega)
 unfold sRes
 cases hp:sIsPath path with
 | false=>simp [Qjz,q1,q2,q3,hp,zEntry]<;>rfl
 | true =>
  obtain ⟨hRI,hmu⟩:=start_RI (root:=root) hk hc hp
  rw [if_pos rfl]
  simp only [Qjz,un,cur0]
  simp only [q1,q2,q3,q4,hp,unP_not,atP_zero,atP_succ,iteP_eq,Bool.not_true,Bool.false_eq_true,if_false]
  refine lp_walk (ask:=ask) (now:=now) (encS sv now) (fun o=>k (oRes o)) hA (fun t ht K=>?_) 64 _ hRI hmu
  clear q1 q2 q3 q4 hRI hmu hpa
  obtain ⟨s,r,hp,hf,hs,hsl⟩:=ht.p.first
  have h0:t.path[0]? = some s:=by rw [hp];rfl
  have hpl:=ht.p.le
  have hpp:=ht.p.pos
  have hzs:t.zs.length+1<1073741824:=by have:=ht.zs;omega
  have hal:=ansL_le hA ht
  have e1:=spec_FromCache_b t.c t.z s ht.c
  have e2:=hask t.z s hs
  have hll:(sAnsL ask t).length≤1048576:=by have:=hL t.z (sFirstS t.path);simp [sAnsL];omega
  have e3:∀k,call Qhz [.agg (eKnown t.k),.one (.list 21 (eAnswer (sFrom t.c t.z s)::(ask t.z s).map eAnswer)),.one (I t.z),.one (.str s),.one (I now)] k=k (eLook (lookG (sLk ask now t))):=by
   have:=spec_LookUp_b t.k (sAnsL ask t) t.z s now ht.k hll hal hs
   unfold sLk
   rw [hf]
   have hu:sAnsL ask t=sFrom t.c t.z s::ask t.z s:=by unfold sAnsL;rw [hf]
   rw [hu] at this ⊢
   exact this
  have hal4:1+(ask t.z s).length<1073741824:=by have:=hL t.z s;omega
  cases hl:(sLk ask now t).2.2 with
  | none =>
   have hG:eLook (lookG (sLk ask now t))=eLook ⟨(sLk ask now t).1,false,zEntry,false,(sLk ask now t).2.1⟩:=by
    unfold lookG
    generalize sLk ask now t=q at hl
    obtain ⟨k1,cs,o⟩:=q
    subst hl
    rfl
   rw [hG] at e3
   have hS:sStep ask now t=.inl ⟨(sLk ask now t).1,t.c,3,zEntry,t.zs++[t.z],t.mv⟩:=by
    unfold sStep sCa
    rw [hl]
   rw [hS]
   have e8:∀k,call Qjx [.agg [chains (sLk ask now t).1.Chains,.list 51 ((sLk ask now t).1.Forks.map eFork),.bool false,.str ⟨#[]⟩,I 0,I 0,strs [],.bool false,ints (sLk ask now t).2.1]] k=k [.str ⟨#[]⟩,I 0,I 0,strs [],.bool false]:=Qjx_c (sLk ask now t).1 zEntry false false (sLk ask now t).2.1 (by decide)
   have e9:∀k,call Qjy [.agg [chains (sLk ask now t).1.Chains,.list 51 ((sLk ask now t).1.Forks.map eFork),.bool false,.str ⟨#[]⟩,I 0,I 0,strs [],.bool false,ints (sLk ask now t).2.1]] k=k [.bool false]:=Qjy_c (sLk ask now t).1 zEntry false false (sLk ask now t).2.1
   simp [-getElem?_pos,Qjz_r0,encS,h0,e1,e2,e3,hal4,hzs,hpp,take_ints,e8,e9,sBel,eTrace,eCache,zEntry]<;>rfl
  | some ia =>
   obtain ⟨i,a⟩:=ia
   have hG:eLook (lookG (sLk ask now t))=eLook ⟨(sLk ask now t).1,a.Found,a.Entry,true,(sLk ask now t).2.1⟩:=by
    unfold lookG
    generalize sLk ask now t=q at hl
    obtain ⟨k1,cs,o⟩:=q
    subst hl
    rfl
   rw [hG] at e3
   have hLe:sLk ask now t=sLook t.z s now t.k [] 0 (sFrom t.c t.z s::ask t.z s):=by unfold sLk sAnsL;rw [hf]
   have hlk:(sLook t.z s now t.k [] 0 (sFrom t.c t.z s::ask t.z s)).2.2=some (i,a):=by rw [←hLe];exact hl
   have hat3:=(look_at hlk).2.2
   rw [←hLe] at hat3
   have hat:=(look_at hlk).2.1
   rw [Nat.sub_zero] at hat
   have hok:=look_ok hlk
   have hCa:sCa ask now t=sKeep t.c t.z s a now:=by unfold sCa;rw [hl,hf]
   have hma:mAnswer a≤1048576:=hal a (by
    have hu:sAnsL ask t=sFrom t.c t.z s::ask t.z s:=by unfold sAnsL;rw [hf]
    rw [hu];exact List.mem_of_getElem? hat)
   have e4:=spec_KeepAnswer_b t.c t.z s a now ht.c hs hma
   have hrow:(eAnswer (sFrom t.c t.z s)::(ask t.z s).map eAnswer)[i]? = some (eAnswer a):=by
    have:=congrArg (Option.map eAnswer) hat
    rw [←List.getElem?_map] at this
    simpa using this
   have hil:i<(ask t.z s).length+1:=by have:=lt_of_get hat;simpa using this
   have hix:IntKind.i64.wrap (((sLk ask now t).2.1.length:Int)-1)=(i:Int):=by
    have h4:=hL t.z s
    rw [hat3]
    simp only [List.length_nil,Nat.zero_add,Nat.sub_zero]
    rw [show (((i+1:Nat):Int)-1)=(i:Int) by omega]
    exact wr_eq (by omega) (by omega)
   have hmv:IntKind.i64.wrap (t.mv+1)=t.mv+1:=wr_eq (by have:=ht.mv0;omega) (by have:=ht.mv3;omega)
   have e7:=Qbh_n a.Entry.Path (by have:=(answer_le hma).2.1;unfold mEntry at this;omega)
   have e8:=Qjx_c (sLk ask now t).1 a.Entry a.Found true (sLk ask now t).2.1 (answer_le hma).2.1
   have e9:=Qjy_c (sLk ask now t).1 a.Entry a.Found true (sLk ask now t).2.1
   unfold sStep
   rw [hl,hCa]
   simp only
   cases hF:a.Found with
   | false =>
    rw [hF] at e3 e8 e9
    have hb:True:=trivial
    simp [-getElem?_pos,Qjz_r0,h0,e1,e2,e3,e4,e8,e9,elemP_at hrow,hix,hil,hal4,hzs,hpp,take_ints,zEntry,encS,strs_app,strs_tail,take_map,flat_tail,hb,eTrace,eCache,sBel]<;>rfl
   | true =>
    rw [hF] at e3 e8 e9
    have hE:=entry_path (ans_entry hok hF)
    have e5:∀k,call Qcp [.one (.list 1 (a.Entry.Path.map rS++(t.path.map rS).tail))] k=k [.bool (sIsPath (a.Entry.Path++t.path.tail))]:=by
     have:=Qcp_n (a.Entry.Path++t.path.tail) (path_small (by simp;omega) (fun x hx=>by
      rcases List.mem_append.1 hx with hx | hx
      ·exact hE.2 x hx
      ·exact label_le (ht.p.lab x (List.mem_of_mem_tail hx))))
     intro k
     rw [←this k,strs_app]
    have hb:a.Entry.Path.length+(t.path.length-1)<1073741824:=by omega
    by_cases hK:a.Entry.Kind=3
    ·have hKt:=eq_true hK
     by_cases h3:3≤t.mv
     ·simp [-getElem?_pos,Qjz_r0,h0,e1,e2,e3,e4,e8,e9,elemP_at hrow,hix,hil,hal4,hzs,hpp,take_ints,zEntry,encS,strs_app,strs_tail,take_map,flat_tail,hb,eTrace,eCache,sBel,e5,e7,hKt,h3]<;>rfl
     ·cases hP:sIsPath (a.Entry.Path++t.path.tail) with
      | false=>simp [-getElem?_pos,Qjz_r0,h0,e1,e2,e3,e4,e8,e9,elemP_at hrow,hix,hil,hal4,hzs,hpp,take_ints,zEntry,encS,strs_app,strs_tail,take_map,flat_tail,hb,eTrace,eCache,sBel,e5,e7,hKt,h3,hP]<;>rfl
      | true=>simp [-getElem?_pos,Qjz_r0,h0,e1,e2,e3,e4,e8,e9,elemP_at hrow,hix,hil,hal4,hzs,hpp,take_ints,zEntry,encS,strs_app,strs_tail,take_map,flat_tail,hb,eTrace,eCache,sBel,e5,e7,hKt,h3,hP,hmv]<;>rfl
    ·have hKf:=eq_false hK
     by_cases hr:t.path.length=1
     ·simp [-getElem?_pos,Qjz_r0,h0,e1,e2,e3,e4,e8,e9,elemP_at hrow,hix,hil,hal4,hzs,hpp,take_ints,zEntry,encS,strs_app,strs_tail,take_map,flat_tail,hb,eTrace,eCache,sBel,hKf,hr]<;>rfl
     ·have hr1:¬(t.path.length-1=0):=by omega
      have hr2:¬(t.path.length≤1):=by omega
      have hr3:¬((t.path.length:Int)=1):=by omega
      by_cases h2:a.Entry.Kind=2
      ·have h2t:=eq_true h2
       simp [-getElem?_pos,Qjz_r0,h0,e1,e2,e3,e4,e8,e9,elemP_at hrow,hix,hil,hal4,hzs,hpp,take_ints,zEntry,encS,strs_app,strs_tail,take_map,flat_tail,hb,eTrace,eCache,sBel,hKf,h2t,hr,hr1,hr2,hr3]<;>rfl
      ·have h2f:=eq_false h2
       simp [-getElem?_pos,Qjz_r0,h0,e1,e2,e3,e4,e8,e9,elemP_at hrow,hix,hil,hal4,hzs,hpp,take_ints,zEntry,encS,strs_app,strs_tail,take_map,flat_tail,hb,eTrace,eCache,sBel,hKf,h2f,hr,hr1,hr2,hr3]<;>rfl) k
end Go.Ev
set_option linter.unusedVariables false
set_option linter.unusedSimpArgs false
set_option maxRecDepth 8000
set_option maxHeartbeats 4000000
namespace Go.Ev
open Go.Proofs
def ask0:Int→ByteArray→List GAnswer:=fun _ _=>[]
theorem impl_AskAll_nil (z:Int) (s:ByteArray) (hs:s.size≤1048576) (k):call Qkg [.one (.list 2 []),.one (I z),.one (.str s)] k=k [.list 21 ((ask0 z s).map eAnswer)]:=call_of (fun k=>by
 simp [Qkg,ask0]
 exact itP_mono_end fun K=>by simp [Qkg_r0]) k
theorem spec_AskAll_nil (z:Int) (s:ByteArray) (hs:s.size≤1048576) (k):call Qjv [.one (.list 2 []),.one (I z),.one (.str s)] k=k [.list 21 ((ask0 z s).map eAnswer)]:=call_of (fun k=>by
 simp [Qjv,ask0]
 exact itP_mono_end fun K=>by simp [Qjv_r0]) k
theorem ask0_le:∀z s,∀a∈ask0 z s,mAnswer a≤1048576:=by intro z s a ha;cases ha
theorem ask0_len:∀z s,(ask0 z s).length≤4:=by intro z s;simp [ask0]
def zKn:GKnown:=⟨[],[]⟩
theorem zKn_KB:KB zKn:=⟨by simp [zKn],(by intro c hc;cases hc),by simp [zKn],(by intro f hf;cases hf)⟩
def sOff (c:GCache) (root:Int) (path:List ByteArray) (now:Int):GTrace:=let o:=sRes ask0 now zKn c root path;⟨o.k,o.code,o.e,o.zs,o.mv⟩
theorem impl_ResolveOffline_b (c:GCache) (root:Int) (path:List ByteArray) (now:Int) (hc:CB c) (hpa:path.length+sumN ByteArray.size path≤1048576) (k):call Qkj [.agg [.list 1 [],.list 51 []],.agg (eCache c),.one (I root),.one (strs path),.one (I now)] k=k (eTrace (sOff c root path now)):=call_of (fun k=>by
 have e:∀k,call Qki [.agg [.list 1 [],.list 51 []],.agg (eCache c),.one (.list 2 []),.one (I root),.one (strs path),.one (I now)] k=k (oRes (sRes ask0 now zKn c root path)):=impl_ResolveFrom_b impl_AskAll_nil ask0_le ask0_len zKn c root path zKn_KB hc hpa
 simp [Qkj,e,sOff,eTrace]) k
theorem spec_ResolveOffline_b (c:GCache) (root:Int) (path:List ByteArray) (now:Int) (hc:CB c) (hpa:path.length+sumN ByteArray.size path≤1048576) (k):call Qka [.agg [.list 1 [],.list 51 []],.agg (eCache c),.one (I root),.one (strs path),.one (I now)] k=k (eTrace (sOff c root path now)):=call_of (fun k=>by
 have e:∀k,call Qjz [.agg [.list 1 [],.list 51 []],.agg (eCache c),.one (.list 2 []),.one (I root),.one (strs path),.one (I now)] k=k (oRes (sRes ask0 now zKn c root path)):=spec_ResolveFrom_b spec_AskAll_nil ask0_le ask0_len zKn c root path zKn_KB hc hpa
 simp [Qka,e,sOff,eTrace]) k
def sChkB (b:GBundle) (now:Int):GTrace:=if (16:Int)<b.Steps.length then ⟨zKn,6,zEntry,[],0⟩ else sOff ⟨b.Steps⟩ b.Root b.Path now
theorem bundleB {b:GBundle} (h:mBundle b≤1048576):CB ⟨b.Steps⟩∧b.Path.length+sumN ByteArray.size b.Path≤1048576:=by
 unfold mBundle at h
 have hs:mStoredS b.Steps=b.Steps.length+sumN mStored b.Steps:=rfl
 refine ⟨⟨by simp only;omega,fun s hm=>?_⟩,by omega⟩
 have h1:mStored s≤sumN mStored b.Steps:=sumN_mem hm
 have h2:mStored s=s.Label.size+mAnswer s.Answer:=rfl
 exact ⟨by omega,by omega⟩
theorem impl_CheckBundle_b (b:GBundle) (now:Int) (h:mBundle b≤1048576) (k):call Qkk [.agg (eBundle b),.one (I now)] k=k (eTrace (sChkB b now)):=call_of (fun k=>by
 obtain ⟨h1,h2⟩:=bundleB h
 have e:=impl_ResolveOffline_b ⟨b.Steps⟩ b.Root b.Path now h1 h2
 unfold sChkB
 by_cases c:(16:Int)<b.Steps.length
 ·simp [Qkk,c,zKn,zEntry]<;>rfl
 ·simp [Qkk,c,e]) k
theorem spec_CheckBundle_b (b:GBundle) (now:Int) (h:mBundle b≤1048576) (k):call Qkb [.agg (eBundle b),.one (I now)] k=k (eTrace (sChkB b now)):=call_of (fun k=>by
 obtain ⟨h1,h2⟩:=bundleB h
 have e:=spec_ResolveOffline_b ⟨b.Steps⟩ b.Root b.Path now h1 h2
 unfold sChkB
 by_cases c:(16:Int)<b.Steps.length
 ·simp [Qkb,c,zKn,zEntry]<;>rfl
 ·simp [Qkb,c,e]) k
def sIsB (b:GBundle) (now:Int):Bool:=decide ((sChkB b now).Code=1)||decide ((sChkB b now).Code=2)
theorem impl_IsBundle_b (b:GBundle) (now:Int) (h:mBundle b≤1048576) (k):call Qko [.agg (eBundle b),.one (I now)] k=k [.bool (sIsB b now)]:=call_of (fun k=>by
 have e:=impl_CheckBundle_b b now h
 have e2:∀n k,call Qkn [.one (I n)] k=k [.bool (decide (n=1)||decide (n=2))]:=fun n=>call_of (fun k=>by
  by_cases h1:n=1
  ·simp [Qkn,h1]
  ·by_cases h2:n=2<;>simp [Qkn,beqI,h1,h2])
 simp [Qko,e,e2,sIsB]) k
theorem spec_IsBundle_b (b:GBundle) (now:Int) (h:mBundle b≤1048576) (k):call Qkm [.agg (eBundle b),.one (I now)] k=k [.bool (sIsB b now)]:=call_of (fun k=>by
 have e:=spec_CheckBundle_b b now h
 unfold sIsB
 by_cases h1:(sChkB b now).Code=1
 ·simp [Qkm,e,h1]
 ·by_cases h2:(sChkB b now).Code=2<;>simp [Qkm,e,beqI,h1,h2]) k
theorem laws_FnExactIsBundle_law (pvss:List (List PV)) (h:HasEach [[.int .i64,.list [.str],.list [.int .i64,.str,.list [.int .i64,.int .i64,.int .i64,.int .i64,.int .i64,.int .i64,.int .i64,.int .i64,.list [.int .i64],.int .i64,.list [.int .i64],.int .i64,.int .i64,.list [.int .i64],.int .i64,.bool,.list [.int .i64,.int .i64]],.bool,.str,.int .i64,.int .i64,.list [.str],.int .i64,.list [.int .i64],.int .i64,.str,.int .i64,.int .i64,.list [.str],.str,.int .i64,.int .i64,.list [.str],.int .i64,.list [.int .i64],.int .i64,.list [.int .i64]]],[.int .i64]] pvss):laws_FnExactIsBundle (avsOf Tryz.prog Tryz.f3.params.toList pvss) (fun o=>o=[PV.bool true]):=by
 obtain ⟨p0,r0,rfl,h0,hq0⟩:=each_cons h
 obtain ⟨p1,r1,rfl,h1,hq1⟩:=each_cons hq0
 rw [each_nil hq1]
 obtain ⟨x0,rfl,w0⟩:=decBundle _ h0
 obtain ⟨q1,rfl,g1⟩:=all_one h1
 obtain ⟨now,rfl⟩:=has_int g1
 rw [show avsOf Tryz.prog Tryz.f3.params.toList [eBundle x0,[I now]]=[.agg (eBundle x0),.one (I now)] by kernel_rfl]
 simp only [laws_FnExactIsBundle,un,cur0,Qjr_n x0 (1048576) w0 (by omega) (by omega),binP_lss,iteP_eq,atP_zero,atP_succ,rt_eq,scs_sc,scs_nil,flat_int,flat_bool,true_and,and_true]
 by_cases c0:((mBundle x0:Nat):Int)≤1048576
 rotate_left
 ·simp [szr_not c0]
 simp only [szr_yes c0,show ¬(1048576-((mBundle x0:Nat):Int)<0) by omega,decide_false,Bool.false_eq_true,if_false,binP_lss,iteP_eq,atP_zero,atP_succ,rt_eq,scs_sc,scs_nil,flat_int,flat_bool,true_and,and_true]
 have s0:mBundle x0≤1048576:=by omega
 simp [Qjs_n x0 s0,Qkl_n x0 s0,spec_IsBundle_b x0 now s0,impl_IsBundle_b x0 now s0,boolP]
end Go.Ev
