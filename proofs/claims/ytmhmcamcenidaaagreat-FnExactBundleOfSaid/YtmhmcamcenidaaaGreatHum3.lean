/- What each function hands back, and that the law answers true, part 3. -/
import Derived.Test.YtmhmcamcenidaaaGreatHum2
set_option linter.unusedVariables false
set_option linter.unusedSimpArgs false
set_option maxHeartbeats 16000000
set_option maxRecDepth 8000
namespace Go.Ev
open Go.Proofs
abbrev xnt (sv cv fv:PV) (chv:PV) (now:Int) (path:List ByteArray) (z code:Int) (e:xat) (mv:Int) (zs:List Int) (k:xaS) (c:xbH):List PV :=
 [strs path,I z,I code,.str e.Label,I e.Kind,I e.Value,I mv,I 0,.str ⟨#[]⟩,I 0,I 0,I 0,I 0,.str ⟨#[]⟩,I 0,I 0,I 0,I now,sv,cv,chv,fv,.list 23 [],.list 1 [],.list 1 [],.list 51 [],.list 1 [],.list 1 [],.list 1 [],.list 51 [],.list 1 [],ints zs,strs e.Path,chains k.Chains,.list 51 (k.Forks.map xbR),.list 23 (c.Lst.map xbz)]
theorem xsv {rows:List (List PV)} {i sz:Nat} {r:List PV} (h:rows[i]? = some r) (k:List PV→Prop):xqA sz (.list sz rows) i k↔k r:=by
 simp [xqA,h]
theorem xmj {z:Int} {s:ByteArray} {now:Int}:∀{l:List xau} {k:xaS} {cs:List Int} {i j:Nat} {a:xau},(xea z s now k cs i l).2.2=some (j,a)→xkJ z s a now=1
 | [],k,cs,i,j,a,h=>by cases h
 | b::r,k,cs,i,j,a,h=>by
  rw [xea] at h
  split at h
  ·rename_i hc
   cases h
   unfold xm2 at hc
   split at hc
   ·cases hc
   ·exact hc
  ·exact xmj h
theorem xlU {z:Int} {s:ByteArray} {a:xau} {now:Int} (h:xkJ z s a now=1) (hf:a.Found=true):xb7 a.Entry=true:=by
 unfold xkJ at h
 split at h
 ·cases h
 split at h
 ·cases h
 split at h
 ·cases h
 split at h
 ·cases h
 split at h
 ·cases h
 rename_i p _ _ _ _ hp
 unfold xeO at hp
 rw [if_pos hf] at hp
 split at hp
 ·simp only [Bool.not_eq_false,Bool.and_eq_true] at hp
  have:=hp.1
  unfold xa6 at this
  simp only [Bool.and_eq_true] at this
  exact this.1
 ·cases hp rfl
theorem xjP {e:xat} (h:xb7 e=true):e.Path.length≤4∧∀s∈e.Path,s.size≤8:=by
 unfold xb7 at h
 simp only [Bool.and_eq_true] at h
 have h:=h.2
 split at h
 ·simp only [Bool.and_eq_true,decide_eq_true_eq,List.length_eq_zero_iff] at h
  rw [h.2];simp
 split at h
 ·simp only [Bool.and_eq_true,decide_eq_true_eq,List.length_eq_zero_iff] at h
  rw [h.2];simp
 split at h
 ·simp only [Bool.and_eq_true] at h
  have:=xih h.2
  exact ⟨this.le,fun s hs=>xhs (this.lab s hs)⟩
 ·cases h
theorem xma {α:Type} {f:α→Nat} {b:Nat}:∀{l:List α},(∀x∈l,f x≤b)→xbl f l≤l.length*b
 | [],_=>by simp [xbl]
 | x::l,h=>by
  have h1:=h x List.mem_cons_self
  have h2:=xma (l:=l) fun y hy=>h y (List.mem_cons_of_mem _ hy)
  simp only [xbl,List.length_cons,Nat.add_mul,Nat.one_mul];omega
theorem xjq {p:List ByteArray} (h1:p.length≤8) (h2:∀s∈p,s.size≤8):p.length+xbl ByteArray.size p≤33554432:=by
 have:=xma (f:=ByteArray.size) (b:=8) h2
 omega
theorem xb5 (p q:List ByteArray):strs (p++q.tail)=.list 1 (p.map rS++(q.map rS).tail):=by simp
theorem xbT (q:List ByteArray):strs q.tail=.list 1 (q.map rS).tail:=by simp
theorem xcp (q:List ByteArray):List.take q.length (List.map rS q)=List.map rS q:=List.take_of_length_le (by simp)
theorem xbX (q:List ByteArray):xa4 (.list 1 (q.map rS).tail):=by
 intro r hr p hp
 have:=List.mem_of_mem_tail hr
 obtain ⟨x,_,rfl⟩:=List.mem_map.1 this
 simp [rS] at hp
 subst hp
 rfl
theorem xnZ {ask:Int→ByteArray→List xau} {now:Int} {sv cv fv chv:PV} (hask:∀z s,s.size≤33554432→∀k,call Qkn [.one sv,.one (I z),.one (.str s)] k=k [.list 21 ((ask z s).map xax)])
 (hA:∀z s,∀a∈ask z s,xaL a≤33554432) (hL:∀z s,(ask z s).length≤4) (t:RSt) (ht:RI t) (K:List PV→Prop) {x0k} :
 Qkp_r0 (xnt sv cv fv chv now t.path t.z 0 xaV t.mv t.zs t.k t.c) K x0k↔match xdU ask now t with
  | .inl o=>K (xnt sv cv fv chv now [] 0 o.code o.e o.mv o.zs o.k o.c)
  | .inr t=>K (xnt sv cv fv chv now t.path t.z 0 xaV t.mv t.zs t.k t.c):=by
 obtain ⟨s,r,hp,hf,hs,hsl⟩:=ht.p.first
 have h0:t.path[0]? = some s:=by rw [hp];rfl
 have hpl:=ht.p.le
 have hpp:=ht.p.pos
 have hzs:t.zs.length+1<1073741824:=by have:=ht.zs;omega
 have hal:=xkz hA ht
 have e1:=xhg t.c t.z s ht.c
 have e2:=hask t.z s hs
 have hll:(xec ask t).length≤33554432:=by have:=hL t.z (xeP t.path);simp [xec];omega
 have e3:∀k,call Qkb [.agg (xcM t.k),.one (.list 21 (xax (xdV t.c t.z s)::(ask t.z s).map xax)),.one (I t.z),.one (.str s),.one (I now)] k=k (xeI (xet (sLk ask now t))++[I (xkc (sLk ask now t))]):=by
  have:=xkh t.k (xec ask t) t.z s now ht.k hll hal hs
  unfold sLk
  rw [hf]
  have hu:xec ask t=xdV t.c t.z s::ask t.z s:=by unfold xec;rw [hf]
  rw [hu] at this ⊢
  exact this
 have hal4:1+(ask t.z s).length<1073741824:=by have:=hL t.z s;omega
 cases hl:(sLk ask now t).2.2 with
 | none =>
  have hG:xeI (xet (sLk ask now t))++[I (xkc (sLk ask now t))]=xeI ⟨(sLk ask now t).1,false,xaV,false,(sLk ask now t).2.1⟩++[I (-1)]:=by
   unfold xet xkc
   generalize sLk ask now t=q at hl
   obtain ⟨k1,cs,o⟩:=q
   subst hl
   rfl
  rw [hG] at e3
  have hS:xdU ask now t=.inl ⟨(sLk ask now t).1,t.c,3,xaV,t.zs++[t.z],t.mv⟩:=by
   unfold xdU sCa
   rw [hl]
  rw [hS]
  simp [-getElem?_pos,Qkp_r0,h0,e1,e2,e3,hal4,hzs,hpp,xaT,xaV,xnt]<;>rfl
 | some ia =>
  obtain ⟨i,a⟩:=ia
  have hG:xeI (xet (sLk ask now t))++[I (xkc (sLk ask now t))]=xeI ⟨(sLk ask now t).1,a.Found,a.Entry,true,(sLk ask now t).2.1⟩++[I i]:=by
   unfold xet xkc
   generalize sLk ask now t=q at hl
   obtain ⟨k1,cs,o⟩:=q
   subst hl
   rfl
  rw [hG] at e3
  have hlk:(xea t.z s now t.k [] 0 (xdV t.c t.z s::ask t.z s)).2.2=some (i,a):=by
   have:sLk ask now t=xea t.z s now t.k [] 0 (xdV t.c t.z s::ask t.z s):=by unfold sLk xec;rw [hf]
   rw [←this];exact hl
  have hat:=(xh8 hlk).2.1
  rw [Nat.sub_zero] at hat
  have hok:=xmj hlk
  have hCa:sCa ask now t=xhQ t.c t.z s a now:=by unfold sCa;rw [hl,hf]
  have hma:xaL a≤33554432:=hal a (by
   have hu:xec ask t=xdV t.c t.z s::ask t.z s:=by unfold xec;rw [hf]
   rw [hu];exact List.mem_of_getElem? hat)
  have e4:=xgL t.c t.z s a now ht.c hs hma
  have hrow:(xax (xdV t.c t.z s)::(ask t.z s).map xax)[i]? = some (xax a):=by
   have:=congrArg (Option.map xax) hat
   rw [←List.getElem?_map] at this
   simpa using this
  have hrow2:=xsv (sz:=21) hrow
  have hil:i<(ask t.z s).length+1:=by have:=xaK hat;simpa using this
  have e6:=xkF a.Entry (xbu hma).2.1
  have hmv:IntKind.i64.wrap (t.mv+1)=t.mv+1:=xbK (by have:=ht.mv0;omega) (by have:=ht.mv3;omega)
  have e7:=xd5 a.Entry.Path (by have:=(xbu hma).2.1;unfold xaz at this;omega)
  unfold xdU
  rw [hl,hCa]
  simp only
  cases hF:a.Found with
  | false =>
   rw [hF] at e3
   simp [-getElem?_pos,Qkp_r0,h0,e1,e2,e3,e4,hrow2,hil,hal4,hzs,hpp,xaT,xaV,xnt]<;>rfl
  | true =>
   rw [hF] at e3
   have hE:=xjP (xlU hok hF)
   have e5:∀k,call Qfp [.one (.list 1 (a.Entry.Path.map rS++(t.path.map rS).tail))] k=k [.bool (xcC (a.Entry.Path++t.path.tail))]:=by
    have:=xth (a.Entry.Path++t.path.tail) (xjq (by simp;omega) (fun x hx=>by
     rcases List.mem_append.1 hx with hx | hx
     ·exact hE.2 x hx
     ·exact xhs (ht.p.lab x (List.mem_of_mem_tail hx))))
    intro k
    rw [←this k,xb5]
   have hb:a.Entry.Path.length+(t.path.length-1)<1073741824:=by omega
   by_cases hK:a.Entry.Kind=3
   ·have hKt:=eq_true hK
    by_cases h3:3≤t.mv
    ·simp [-getElem?_pos,Qkp_r0,h0,e1,e2,e3,e4,hrow2,hil,hal4,hzs,hpp,xaT,xaV,xnt,xb5,xbT,xcp,xbX,hb,e5,e7,hKt,h3]<;>rfl
    ·cases hP:xcC (a.Entry.Path++t.path.tail) with
     | false=>simp [-getElem?_pos,Qkp_r0,h0,e1,e2,e3,e4,hrow2,hil,hal4,hzs,hpp,xaT,xaV,xnt,xb5,xbT,xcp,xbX,hb,e5,e7,hKt,h3,hP]<;>rfl
     | true=>simp [-getElem?_pos,Qkp_r0,h0,e1,e2,e3,e4,hrow2,hil,hal4,hzs,hpp,xaT,xaV,xnt,xb5,xbT,xcp,xbX,hb,e5,e7,hKt,h3,hP,hmv]<;>rfl
   ·have hKf:=eq_false hK
    by_cases hr:t.path.length=1
    ·simp [-getElem?_pos,Qkp_r0,h0,e1,e2,e3,e4,hrow2,hil,hal4,hzs,hpp,xaT,xaV,xnt,xb5,xbT,xcp,xbX,hb,e6,hKf,hr]<;>rfl
    ·have hr1:¬(t.path.length-1=0):=by omega
     have hr2:¬(t.path.length≤1):=by omega
     have hr3:¬(((t.path.length-1:Nat):Int)=0):=by omega
     by_cases h2:a.Entry.Kind=2
     ·have h2t:=eq_true h2
      simp [-getElem?_pos,Qkp_r0,h0,e1,e2,e3,e4,hrow2,hil,hal4,hzs,hpp,xaT,xaV,xnt,xb5,xbT,xcp,xbX,hb,hKf,h2t,hr1,hr2,hr3]<;>rfl
     ·have h2f:=eq_false h2
      simp [-getElem?_pos,Qkp_r0,h0,e1,e2,e3,e4,hrow2,hil,hal4,hzs,hpp,xaT,xaV,xnt,xb5,xbT,xcp,xbX,hb,hKf,h2f,hr1,hr2,hr3]<;>rfl
theorem xpc {R:(List PV→Prop)→List PV→Prop} {ask:Int→ByteArray→List xau} {now:Int} (V:RSt→List PV) (fin:xqh→Prop) (hA:∀z s,∀a∈ask z s,xaL a≤33554432)
 (h:∀t,RI t→∀K,R K (V t)↔match xdU ask now t with | .inl o=>fin o | .inr t'=>K (V t')):∀(n:Nat) (t:RSt),RI t→mu t<n→(lp R (V t)↔fin (xkU ask now n t))
 | 0,t,_,hn=>by omega
 | n+1,t,ht,hn=>by
  have hs:=h t ht
  rw [xkU]
  cases hq:xdU ask now t with
  | inl o =>
   exact xaI fun K=>by rw [hs K,hq]
  | inr t' =>
   obtain ⟨h1,h2,_⟩:=xmb hA ht hq
   refine (xbV fun K=>by rw [hs K,hq]).trans ?_
   exact xpc V fin hA h n t' h1 (by omega)
theorem xoC {ask:Int→ByteArray→List xau} {now:Int} {t:RSt} {o:xqh} (h:xdU ask now t=.inl o):¬o.code=0:=by
 unfold xdU at h
 repeat' split at h
 all_goals first | (cases h;simp;done) | (cases h;done)
theorem xnb {R:(List PV→Prop)→List PV→Prop} {ask:Int→ByteArray→List xau} {now:Int} (V:RSt→List PV) (W:xqh→List PV) (fin:xqh→Prop) (hA:∀z s,∀a∈ask z s,xaL a≤33554432)
 (h:∀t,RI t→∀K,R K (V t)↔match xdU ask now t with | .inl o=>K (W o) | .inr t'=>K (V t')) (hW:∀o,¬o.code=0→∀K,R K (W o)↔fin o):∀(n:Nat) (t:RSt),RI t→mu t<n→(lp R (V t)↔fin (xkU ask now n t))
 | 0,t,_,hn=>by omega
 | n+1,t,ht,hn=>by
  have hs:=h t ht
  rw [xkU]
  cases hq:xdU ask now t with
  | inl o =>
   refine (xbV fun K=>by rw [hs K,hq]).trans ?_
   exact xaI fun K=>hW o (xoC hq) K
  | inr t' =>
   obtain ⟨h1,h2,_⟩:=xmb hA ht hq
   refine (xbV fun K=>by rw [hs K,hq]).trans ?_
   exact xnb V W fin hA h hW n t' h1 (by omega)
def xss (ask:Int→ByteArray→List xau) (now:Int) (k:xaS) (c:xbH) (root:Int) (path:List ByteArray):xqh :=
 if xcC path=true then xkU ask now 64 ⟨k,c,root,path,0,[]⟩ else ⟨k,c,6,xaV,[],0⟩
theorem xjY {k:xaS} {c:xbH} {root:Int} {path:List ByteArray} (hk:KB k) (hc:CB c) (hp:xcC path=true):RI ⟨k,c,root,path,0,[]⟩∧mu ⟨k,c,root,path,0,[]⟩<64:=by
 have hb:=xih hp
 have:=hb.le
 have hm:mu ⟨k,c,root,path,0,[]⟩<64:=by unfold mu;simp;omega
 exact ⟨⟨hk,hc,hb,by simp,by simp,by simp;omega⟩,hm⟩
abbrev xtI (o:xqh):List PV:=xgj ⟨o.k,o.code,o.e,o.zs,o.mv⟩++xbY o.c
theorem xgb {ask:Int→ByteArray→List xau} {now:Int} {sv:PV} (hask:∀z s,s.size≤33554432→∀k,call Qkn [.one sv,.one (I z),.one (.str s)] k=k [.list 21 ((ask z s).map xax)])
 (hA:∀z s,∀a∈ask z s,xaL a≤33554432) (hL:∀z s,(ask z s).length≤4) (k0:xaS) (c0:xbH) (root:Int) (path:List ByteArray) (hk:KB k0) (hc:CB c0) (hpa:path.length+xbl ByteArray.size path≤33554432) (k) :
 call Qkp [.agg (xcM k0),.agg (xbY c0),.one sv,.one (I root),.one (strs path),.one (I now)] k=k (xtI (xss ask now k0 c0 root path)):=xaa (fun k=>by
 have e1:=xeG c0 hc
 have e2:=xdb k0 hk
 have e3:=xth path hpa
 unfold xss
 cases hp:xcC path with
 | false=>simp [Qkp,e1,e2,e3,hp,xaV]<;>rfl
 | true =>
  obtain ⟨hRI,hmu⟩:=xjY (root:=root) hk hc hp
  rw [if_pos rfl]
  simp only [Qkp,un,cur0]
  simp only [e1,e2,e3,hp,xba,xaf,xbi,xah,Bool.not_true,Bool.false_eq_true,if_false]
  refine xnb (ask:=ask) (now:=now) (fun t=>xnt sv (.list 23 (c0.Lst.map xbz)) (.list 51 (k0.Forks.map xbR)) (chains k0.Chains) now t.path t.z 0 xaV t.mv t.zs t.k t.c)
   (fun o=>xnt sv (.list 23 (c0.Lst.map xbz)) (.list 51 (k0.Forks.map xbR)) (chains k0.Chains) now [] 0 o.code o.e o.mv o.zs o.k o.c) (fun o=>k (xtI o)) hA
   (fun t ht K=>xnZ hask hA hL t ht K) (fun o ho K=>?_) 64 _ hRI hmu
  simp [Qkp_r0,xnt,ho]) k
abbrev xq5 (sv:PV) (now:Int) (t:RSt):List PV :=
 [sv,I now,I t.z,strs t.path,.list 23 (t.c.Lst.map xbz),chains t.k.Chains,.list 51 (t.k.Forks.map xbR),I 6,.str ⟨#[]⟩,I 0,I 0,.list 1 [],I t.mv,.list 1 [],.list 51 [],I 0,.str ⟨#[]⟩,I 0,I 0,.list 1 [],I 0,.list 23 [],.list 1 [],ints t.zs]
theorem xez {rows:List (List PV)} {i sz:Nat} {r:List PV} (h:rows[i]? = some r) (k:List PV→Prop):xaj sz (.list sz rows) (I (i:Int)) k↔k r:=by
 simp [xaj,h]
theorem xun (k1:xaS) (e:xat) (f d:Bool) (cs:List Int) (h:xaz e≤33554432) (k):call Qkg [.agg [chains k1.Chains,.list 51 (k1.Forks.map xbR),.bool f,.str e.Label,I e.Kind,I e.Value,strs e.Path,.bool d,ints cs]] k=k (xaD (xoO ⟨k1,f,e,d,cs⟩)++[.bool (d&&f)]):=xgw ⟨k1,f,e,d,cs⟩ h k
theorem xum (k1:xaS) (e:xat) (f d:Bool) (cs:List Int) (k):call Qkh [.agg [chains k1.Chains,.list 51 (k1.Forks.map xbR),.bool f,.str e.Label,I e.Kind,I e.Value,strs e.Path,.bool d,ints cs]] k=k [.bool (d&&!f)]:=xhH ⟨k1,f,e,d,cs⟩ k
theorem xf1 {ask:Int→ByteArray→List xau} {now:Int} {sv:PV} (hask:∀z s,s.size≤33554432→∀k,call Qke [.one sv,.one (I z),.one (.str s)] k=k [.list 21 ((ask z s).map xax)])
 (hA:∀z s,∀a∈ask z s,xaL a≤33554432) (hL:∀z s,(ask z s).length≤4) (k0:xaS) (c0:xbH) (root:Int) (path:List ByteArray) (hk:KB k0) (hc:CB c0) (hpa:path.length+xbl ByteArray.size path≤33554432) (k) :
 call Qki [.agg (xcM k0),.agg (xbY c0),.one sv,.one (I root),.one (strs path),.one (I now)] k=k (xtI (xss ask now k0 c0 root path)):=xaa (fun k=>by
 have q1:=xfr c0 hc
 have q2:=xdR k0 hk
 have q3:=xtq path hpa
 have q4:=xrK path (by omega)
 unfold xss
 cases hp:xcC path with
 | false=>simp [Qki,q1,q2,q3,hp,xaV]<;>rfl
 | true =>
  obtain ⟨hRI,hmu⟩:=xjY (root:=root) hk hc hp
  rw [if_pos rfl]
  simp only [Qki,un,cur0]
  simp only [q1,q2,q3,q4,hp,xba,xaf,xbi,xah,Bool.not_true,Bool.false_eq_true,if_false]
  refine xpc (ask:=ask) (now:=now) (xq5 sv now) (fun o=>k (xtI o)) hA (fun t ht K=>?_) 64 _ hRI hmu
  clear q1 q2 q3 q4 hRI hmu hpa
  obtain ⟨s,r,hp,hf,hs,hsl⟩:=ht.p.first
  have h0:t.path[0]? = some s:=by rw [hp];rfl
  have hpl:=ht.p.le
  have hpp:=ht.p.pos
  have hzs:t.zs.length+1<1073741824:=by have:=ht.zs;omega
  have hal:=xkz hA ht
  have e1:=xhd t.c t.z s ht.c
  have e2:=hask t.z s hs
  have hll:(xec ask t).length≤33554432:=by have:=hL t.z (xeP t.path);simp [xec];omega
  have e3:∀k,call Qik [.agg (xcM t.k),.one (.list 21 (xax (xdV t.c t.z s)::(ask t.z s).map xax)),.one (I t.z),.one (.str s),.one (I now)] k=k (xeI (xet (sLk ask now t))):=by
   have:=xjZ t.k (xec ask t) t.z s now ht.k hll hal hs
   unfold sLk
   rw [hf]
   have hu:xec ask t=xdV t.c t.z s::ask t.z s:=by unfold xec;rw [hf]
   rw [hu] at this ⊢
   exact this
  have hal4:1+(ask t.z s).length<1073741824:=by have:=hL t.z s;omega
  cases hl:(sLk ask now t).2.2 with
  | none =>
   have hG:xeI (xet (sLk ask now t))=xeI ⟨(sLk ask now t).1,false,xaV,false,(sLk ask now t).2.1⟩:=by
    unfold xet
    generalize sLk ask now t=q at hl
    obtain ⟨k1,cs,o⟩:=q
    subst hl
    rfl
   rw [hG] at e3
   have hS:xdU ask now t=.inl ⟨(sLk ask now t).1,t.c,3,xaV,t.zs++[t.z],t.mv⟩:=by
    unfold xdU sCa
    rw [hl]
   rw [hS]
   have e8:∀k,call Qkg [.agg [chains (sLk ask now t).1.Chains,.list 51 ((sLk ask now t).1.Forks.map xbR),.bool false,.str ⟨#[]⟩,I 0,I 0,strs [],.bool false,ints (sLk ask now t).2.1]] k=k [.str ⟨#[]⟩,I 0,I 0,strs [],.bool false]:=xun (sLk ask now t).1 xaV false false (sLk ask now t).2.1 (by decide)
   have e9:∀k,call Qkh [.agg [chains (sLk ask now t).1.Chains,.list 51 ((sLk ask now t).1.Forks.map xbR),.bool false,.str ⟨#[]⟩,I 0,I 0,strs [],.bool false,ints (sLk ask now t).2.1]] k=k [.bool false]:=xum (sLk ask now t).1 xaV false false (sLk ask now t).2.1
   simp [-getElem?_pos,Qki_r0,xq5,h0,e1,e2,e3,hal4,hzs,hpp,xaT,e8,e9,xoO,xgj,xbY,xaV]<;>rfl
  | some ia =>
   obtain ⟨i,a⟩:=ia
   have hG:xeI (xet (sLk ask now t))=xeI ⟨(sLk ask now t).1,a.Found,a.Entry,true,(sLk ask now t).2.1⟩:=by
    unfold xet
    generalize sLk ask now t=q at hl
    obtain ⟨k1,cs,o⟩:=q
    subst hl
    rfl
   rw [hG] at e3
   have hLe:sLk ask now t=xea t.z s now t.k [] 0 (xdV t.c t.z s::ask t.z s):=by unfold sLk xec;rw [hf]
   have hlk:(xea t.z s now t.k [] 0 (xdV t.c t.z s::ask t.z s)).2.2=some (i,a):=by rw [←hLe];exact hl
   have hat3:=(xh8 hlk).2.2
   rw [←hLe] at hat3
   have hat:=(xh8 hlk).2.1
   rw [Nat.sub_zero] at hat
   have hok:=xmj hlk
   have hCa:sCa ask now t=xhQ t.c t.z s a now:=by unfold sCa;rw [hl,hf]
   have hma:xaL a≤33554432:=hal a (by
    have hu:xec ask t=xdV t.c t.z s::ask t.z s:=by unfold xec;rw [hf]
    rw [hu];exact List.mem_of_getElem? hat)
   have e4:=xgv t.c t.z s a now ht.c hs hma
   have hrow:(xax (xdV t.c t.z s)::(ask t.z s).map xax)[i]? = some (xax a):=by
    have:=congrArg (Option.map xax) hat
    rw [←List.getElem?_map] at this
    simpa using this
   have hil:i<(ask t.z s).length+1:=by have:=xaK hat;simpa using this
   have hix:IntKind.i64.wrap (((sLk ask now t).2.1.length:Int)-1)=(i:Int):=by
    have h4:=hL t.z s
    rw [hat3]
    simp only [List.length_nil,Nat.zero_add,Nat.sub_zero]
    rw [show (((i+1:Nat):Int)-1)=(i:Int) by omega]
    exact xbK (by omega) (by omega)
   have hmv:IntKind.i64.wrap (t.mv+1)=t.mv+1:=xbK (by have:=ht.mv0;omega) (by have:=ht.mv3;omega)
   have e7:=xrK a.Entry.Path (by have:=(xbu hma).2.1;unfold xaz at this;omega)
   have e8:=xun (sLk ask now t).1 a.Entry a.Found true (sLk ask now t).2.1 (xbu hma).2.1
   have e9:=xum (sLk ask now t).1 a.Entry a.Found true (sLk ask now t).2.1
   unfold xdU
   rw [hl,hCa]
   simp only
   cases hF:a.Found with
   | false =>
    rw [hF] at e3 e8 e9
    have hb:True:=trivial
    simp [-getElem?_pos,Qki_r0,h0,e1,e2,e3,e4,e8,e9,xez hrow,hix,hil,hal4,hzs,hpp,xaT,xaV,xq5,xb5,xbT,xcp,xbX,hb,xgj,xbY,xoO]<;>rfl
   | true =>
    rw [hF] at e3 e8 e9
    have hE:=xjP (xlU hok hF)
    have e5:∀k,call Qcq [.one (.list 1 (a.Entry.Path.map rS++(t.path.map rS).tail))] k=k [.bool (xcC (a.Entry.Path++t.path.tail))]:=by
     have:=xtq (a.Entry.Path++t.path.tail) (xjq (by simp;omega) (fun x hx=>by
      rcases List.mem_append.1 hx with hx | hx
      ·exact hE.2 x hx
      ·exact xhs (ht.p.lab x (List.mem_of_mem_tail hx))))
     intro k
     rw [←this k,xb5]
    have hb:a.Entry.Path.length+(t.path.length-1)<1073741824:=by omega
    by_cases hK:a.Entry.Kind=3
    ·have hKt:=eq_true hK
     by_cases h3:3≤t.mv
     ·simp [-getElem?_pos,Qki_r0,h0,e1,e2,e3,e4,e8,e9,xez hrow,hix,hil,hal4,hzs,hpp,xaT,xaV,xq5,xb5,xbT,xcp,xbX,hb,xgj,xbY,xoO,e5,e7,hKt,h3]<;>rfl
     ·cases hP:xcC (a.Entry.Path++t.path.tail) with
      | false=>simp [-getElem?_pos,Qki_r0,h0,e1,e2,e3,e4,e8,e9,xez hrow,hix,hil,hal4,hzs,hpp,xaT,xaV,xq5,xb5,xbT,xcp,xbX,hb,xgj,xbY,xoO,e5,e7,hKt,h3,hP]<;>rfl
      | true=>simp [-getElem?_pos,Qki_r0,h0,e1,e2,e3,e4,e8,e9,xez hrow,hix,hil,hal4,hzs,hpp,xaT,xaV,xq5,xb5,xbT,xcp,xbX,hb,xgj,xbY,xoO,e5,e7,hKt,h3,hP,hmv]<;>rfl
    ·have hKf:=eq_false hK
     by_cases hr:t.path.length=1
     ·simp [-getElem?_pos,Qki_r0,h0,e1,e2,e3,e4,e8,e9,xez hrow,hix,hil,hal4,hzs,hpp,xaT,xaV,xq5,xb5,xbT,xcp,xbX,hb,xgj,xbY,xoO,hKf,hr]<;>rfl
     ·have hr1:¬(t.path.length-1=0):=by omega
      have hr2:¬(t.path.length≤1):=by omega
      have hr3:¬((t.path.length:Int)=1):=by omega
      by_cases h2:a.Entry.Kind=2
      ·have h2t:=eq_true h2
       simp [-getElem?_pos,Qki_r0,h0,e1,e2,e3,e4,e8,e9,xez hrow,hix,hil,hal4,hzs,hpp,xaT,xaV,xq5,xb5,xbT,xcp,xbX,hb,xgj,xbY,xoO,hKf,h2t,hr,hr1,hr2,hr3]<;>rfl
      ·have h2f:=eq_false h2
       simp [-getElem?_pos,Qki_r0,h0,e1,e2,e3,e4,e8,e9,xez hrow,hix,hil,hal4,hzs,hpp,xaT,xaV,xq5,xb5,xbT,xcp,xbX,hb,xgj,xbY,xoO,hKf,h2f,hr,hr1,hr2,hr3]<;>rfl) k
def xri (l:List xa0) (z:Int) (s:ByteArray):List xau:=(l.take 4).map fun x=>xjk x z s
theorem xnC (l:List xa0):∀z s,(xri l z s).length≤4:=by intro z s;simp [xri];omega
theorem xmG {l:List xa0} (h:∀x∈l,xaY x≤1048576):∀z s,∀a∈xri l z s,xaL a≤33554432:=by
 intro z s a ha
 unfold xri at ha
 obtain ⟨x,hx,rfl⟩:=List.mem_map.1 ha
 have:=xoP (h x (List.mem_of_mem_take hx)) z s
 omega
theorem xkk {l:List xa0} (h:∀x∈l,xaY x≤1048576) (hl:l.length≤1048576) (z:Int) (s:ByteArray) (hs:s.size≤33554432) (k):call Qkn [.one (.list 2 (l.map xaQ)),.one (I z),.one (.str s)] k=k [.list 21 ((xri l z s).map xax)]:=xaa (fun k=>by
 have hmin:(if (l.length:Int)<4 then (l.length:Int) else 4)=((l.take 4).length:Nat):=by
  rw [List.length_take];split<;>omega
 have hmn:(if (l.length:Int)<4 then (l.length:Int) else 4).toNat=(l.take 4).length:=by rw [hmin];simp
 simp only [Qkn,xaA,List.length_map,xt1,xsz,hmin,Int.toNat_natCast,Int.natCast_nonneg,true_and,show (0:Nat)≤16777216 by omega,xsP,Option.getD_none,Option.getD_some,List.drop_zero]
 have ht:List.take (l.take 4).length (l.map xaQ)=(l.take 4).map xaQ:=by
  rw [List.length_take,List.map_take]
  rcases Nat.le_total 4 l.length with q | q
  ·rw [Nat.min_eq_left q]
  ·rw [Nat.min_eq_right q,List.take_of_length_le (by simp),List.take_of_length_le (by simpa using q)]
 rw [ht]
 have h4:(l.take 4).length≤l.length:=by rw [List.length_take];omega
 simp only [h4,Nat.zero_le,true_and,List.length_map]
 refine xby (l.take 4) (fun i=>[I z,.str s,.list 2 ((l.take 4).map xaQ),I (l.take 4).length,I i,.list 21 [],.list 21 (((l.take 4).map fun x=>xjk x z s).take i |>.map xax)]) (by simp) (fun i x hx hi K=>?_) fun K=>?_
 ·have hm:xaY x≤33554432:=by have:=h x (List.mem_of_mem_take (List.mem_of_getElem? hx));omega
  have e:=xvP x z s hm hs
  have hy:((l.take 4).map fun x=>xjk x z s)[i]? = some (xjk x z s):=by rw [List.getElem?_map,hx];rfl
  have hi4:i<4:=by
   have:(l.take 4).length≤4:=by simp;omega
   omega
  rw [xaW hy,List.map_append]
  simp [-getElem?_pos,-List.map_take,-List.length_take,Qkn_r0,hx,hi,e,xal (show i<1000000000000000000 by omega)]
  intro _
  have:=List.length_take_le i (List.map (fun x=>xjk x z s) (List.take 4 l))
  omega
 ·simp [-List.map_take,-List.length_take,Qkn_r0,xri]
  rw [List.take_of_length_le (by simp),List.map_map]) k
theorem xr3 {m:PV→Int→Option (PV×Int)} {p p':PV} {k k':Int} (h:m p k=some (p',k')) (hk:rg64 k=true) (K):call (gS m) [.one p,.one (I k)] K=K [p',I k']:=xaa (fun K=>by
 simp only [gS,hk,true_and,h]) K
theorem xuc {m:List PV→Int→Option (List PV×Int)} {ps ps':List PV} {k k':Int} (h:m ps k=some (ps',k')) (hk:rg64 k=true) (K):call (gT m) [.agg ps,.one (I k)] K=K (ps'++[I k']):=xaa (fun K=>by
 simp only [gT,hk,true_and,h]) K
theorem xga (l:List Int) (h:l.length≤4000000000) (k):call Qgj [.one (ints l),.one (ints l)] k=k [.bool true]:=xaa (fun k=>by
 have hm:=h
 simp [Qgj]
 refine xeD l rI 1 (.bool false) rfl (fun i x hx hi K=>?_) fun K=>?_
 ·simp [-getElem?_pos,Qgj_r0,hx,hi,xal (show i<1000000000000000000 by omega)]
 ·simp [Qgj_r0]) k
theorem xeE (l:List ByteArray) (h:(l.length+xbl ByteArray.size l)≤4000000000) (k):call Qgq [.one (strs l),.one (strs l)] k=k [.bool true]:=xaa (fun k=>by
 have hm:=h
 simp [Qgq]
 refine xeD l rS 1 (.bool false) rfl (fun i x hx hi K=>?_) fun K=>?_
 ·simp [-getElem?_pos,Qgq_r0,hx,hi,xal (show i<1000000000000000000 by omega)]
 ·simp [Qgq_r0]) k
theorem xeu (a:xb1) (h:xbk a≤4000000000) (k):call Qgk [.agg (xcU a),.agg (xcU a)] k=k [.bool true]:=xaa (fun k=>by
 unfold xbk at h
 simp [Qgk,xga a.Lst (by omega)]) k
theorem xd0 (a:xat) (h:xaz a≤4000000000) (k):call Qgr [.agg (xaD a),.agg (xaD a)] k=k [.bool true]:=xaa (fun k=>by
 unfold xaz at h
 simp [Qgr,xeE a.Path (by omega)]) k
theorem xdZ (a:xcv) (h:xbo a≤4000000000) (k):call Qgx [.agg (xcT a),.agg (xcT a)] k=k [.bool true]:=xaa (fun k=>by
 unfold xbo at h
 simp [Qgx,xga a.Path (by omega)]) k
theorem xlf (a:xkI) (h:xg0 a≤4000000000) (k):call Qgy [.agg (xl6 a),.agg (xl6 a)] k=k [.bool true]:=xaa (fun k=>by
 unfold xg0 at h
 simp [Qgy,xd0 a.Before (by omega),xd0 a.After (by omega),xdZ a.Left (by omega),xdZ a.Right (by omega)]) k
theorem xke (a:xa9) (h:xbx a≤4000000000) (k):call Qgl [.agg (xbp a),.agg (xbp a)] k=k [.bool true]:=xaa (fun k=>by
 unfold xbx at h
 simp [Qgl,xeu a.Keys (by omega),xeu a.Heirs (by omega),xeu a.Judge (by omega)]) k
theorem xkd (l:List xfX) (h:l.length≤4000000000) (k):call Qgn [.one (.list 2 (l.map xdf)),.one (.list 2 (l.map xdf))] k=k [.bool true]:=xaa (fun k=>by
 have hm:=h
 simp [Qgn]
 refine xeD l xdf 2 (.bool false) rfl (fun i x hx hi K=>?_) fun K=>?_
 ·simp [-getElem?_pos,Qgn_r0,hx,hi,xuw x,xal (show i<1000000000000000000 by omega)]
 ·simp [Qgn_r0]) k
theorem xia (a:xag) (h:xav a≤4000000000) (k):call Qgo [.agg (xam a),.agg (xam a)] k=k [.bool true]:=xaa (fun k=>by
 unfold xav at h
 simp [Qgo,xke a.Head (by omega),xkd a.Sigs (by omega)]) k
theorem xhf (l:List xag) (h:xar l≤4000000000) (k):call Qgp [.one (.list 17 (l.map xam)),.one (.list 17 (l.map xam))] k=k [.bool true]:=xaa (fun k=>by
 have hm:=h
 unfold xar at hm
 simp [Qgp]
 refine xeD l xam 17 (.bool false) rfl (fun i x hx hi K=>?_) fun K=>?_
 ·have hs:xav x≤xbl xav l:=xbn (s:=xav) (List.mem_of_getElem? hx)
  simp [-getElem?_pos,Qgp_r0,hx,hi,xia x (by omega),xal (show i<1000000000000000000 by omega)]
 ·simp [Qgp_r0]) k
theorem xic (a:xau) (h:xaL a≤4000000000) (k):call Qgz [.agg (xax a),.agg (xax a)] k=k [.bool true]:=xaa (fun k=>by
 unfold xaL at h
 simp [Qgz,xhf a.Chain (by omega),xd0 a.Entry (by omega),xdZ a.Proof (by omega),xlf a.Gap (by omega)]) k
theorem xh9 (a:xce) (h:xcF a≤4000000000) (k):call Qha [.agg (xbz a),.agg (xbz a)] k=k [.bool true]:=xaa (fun k=>by
 unfold xcF at h
 simp [Qha,xic a.Answer (by omega)]) k
theorem xhe (l:List xce) (h:xdH l≤4000000000) (k):call Qhb [.one (.list 23 (l.map xbz)),.one (.list 23 (l.map xbz))] k=k [.bool true]:=xaa (fun k=>by
 have hm:=h
 unfold xdH at hm
 simp [Qhb]
 refine xeD l xbz 23 (.bool false) rfl (fun i x hx hi K=>?_) fun K=>?_
 ·have hs:xcF x≤xbl xcF l:=xbn (s:=xcF) (List.mem_of_getElem? hx)
  simp [-getElem?_pos,Qhb_r0,hx,hi,xh9 x (by omega),xal (show i<1000000000000000000 by omega)]
 ·simp [Qhb_r0]) k
theorem xib (a:xiQ) (h:xfJ a≤4000000000) (k):call Qkq [.agg (xdy a),.agg (xdy a)] k=k [.bool true]:=xaa (fun k=>by
 unfold xfJ at h
 simp [Qkq,xeE a.Path (by omega),xhe a.Steps (by omega)]) k
def OC (c:xbH):Prop:=CB c∧c.Lst.length≤16
theorem xtB {c:xbH} {z:Int} {s:ByteArray} {a:xau} {now:Int} (h:c.Lst.length≤16):(xhQ c z s a now).Lst.length≤16:=by
 unfold xhQ
 split
 ·split
  ·simpa using h
  ·split
   ·simp;omega
   ·exact h
 ·exact h
theorem xuZ {ask:Int→ByteArray→List xau} {now:Int} {t:RSt} (hA:∀z s,∀a∈ask z s,xaL a≤33554432) (h:RI t) (hc:t.c.Lst.length≤16):OC (sCa ask now t):=by
 refine ⟨xud hA h,?_⟩
 unfold sCa
 split
 ·exact xtB hc
 ·exact hc
theorem xqo {ask:Int→ByteArray→List xau} {now:Int} {t:RSt} {o:xqh} (hA:∀z s,∀a∈ask z s,xaL a≤33554432) (h:RI t) (hc:t.c.Lst.length≤16) (hs:xdU ask now t=.inl o):OC o.c:=by
 have hk:=xuZ (now:=now) hA h hc
 unfold xdU at hs
 repeat' split at hs
 all_goals first | (cases hs;exact hk) | (cases hs;done)
theorem xqn {ask:Int→ByteArray→List xau} {now:Int} {t t':RSt} (hA:∀z s,∀a∈ask z s,xaL a≤33554432) (h:RI t) (hc:t.c.Lst.length≤16) (hs:xdU ask now t=.inr t'):OC t'.c:=by
 have hk:=xuZ (now:=now) hA h hc
 unfold xdU at hs
 repeat' split at hs
 all_goals first | (cases hs;exact hk) | (cases hs;done)
theorem xoy {ask:Int→ByteArray→List xau} {now:Int} (hA:∀z s,∀a∈ask z s,xaL a≤33554432):∀(n:Nat) (t:RSt),RI t→t.c.Lst.length≤16→OC (xkU ask now n t).c
 | 0,t,ht,hc=>⟨ht.c,hc⟩
 | n+1,t,ht,hc=>by
  rw [xkU]
  cases hq:xdU ask now t with
  | inl o=>exact xqo hA ht hc hq
  | inr t'=>exact xoy hA n t' (xmb hA ht hq).1 (xqn hA ht hc hq).2
theorem xtU {ask:Int→ByteArray→List xau} {now:Int} (hA:∀z s,∀a∈ask z s,xaL a≤33554432) {k:xaS} {c:xbH} {root:Int} {path:List ByteArray} (hk:KB k) (hc:CB c) (hl:c.Lst.length≤16):OC (xss ask now k c root path).c:=by
 unfold xss
 split
 ·rename_i hp
  obtain ⟨h1,_⟩:=xjY (root:=root) hk hc hp
  exact xoy hA 64 _ h1 hl
 ·exact ⟨hc,hl⟩
def zKn:xaS:=⟨[],[]⟩
theorem xou:KB zKn:=⟨by simp [zKn],(by intro c hc;cases hc),by simp [zKn],(by intro f hf;cases hf)⟩
def zCa:xbH:=⟨[]⟩
theorem xov:CB zCa:=⟨by simp [zCa],(by intro c hc;cases hc)⟩
def sBR (l:List xa0) (root:Int) (path:List ByteArray) (now:Int):xqh:=xss (xri l) now zKn zCa root path
def sBO (l:List xa0) (root:Int) (path:List ByteArray) (now:Int):xiQ×Bool :=
 if (decide ((sBR l root path now).code=1)||decide ((sBR l root path now).code=2))=true then (⟨root,path,(sBR l root path now).c.Lst⟩,true) else (⟨0,[],[]⟩,false)
theorem xim {l:List xa0} (h:∀x∈l,xaY x≤1048576) (hl:l.length≤1048576) (root:Int) (path:List ByteArray) (now:Int) (hp:path.length+xbl ByteArray.size path≤1048576) (k):call Qkt [.one (.list 2 (l.map xaQ)),.one (I root),.one (strs path),.one (I now)] k=k (xdy (sBO l root path now).1++[.bool (sBO l root path now).2]):=xaa (fun k=>by
 have e:∀k,call Qkp [.agg [.list 1 [],.list 51 []],.agg [.list 23 []],.one (.list 2 (l.map xaQ)),.one (I root),.one (strs path),.one (I now)] k=k (xtI (sBR l root path now)):=xgb (fun z s hs k=>xkk h hl z s hs k) (xmG h) (xnC l) zKn zCa root path xou xov (by omega)
 have e2:∀n k,call Qkr [.one (I n)] k=k [.bool (decide (n=1)||decide (n=2))]:=fun n=>xaa (fun k=>by
  by_cases h1:n=1
  ·simp [Qkr,h1]
  ·by_cases h2:n=2<;>simp [Qkr,xd4,h1,h2])
 have e3:=xd5 path (by omega)
 unfold sBO
 cases hc:(decide ((sBR l root path now).code=1)||decide ((sBR l root path now).code=2)) with
 | true=>simp [Qkt,e,e2,e3,hc,xdy]
 | false=>simp [Qkt,e,e2,e3,hc,xdy]<;>rfl) k
theorem xj1 {l:List xa0} (h:∀x∈l,xaY x≤1048576) (hl:l.length≤1048576) (z:Int) (s:ByteArray) (hs:s.size≤33554432) (k):call Qke [.one (.list 2 (l.map xaQ)),.one (I z),.one (.str s)] k=k [.list 21 ((xri l z s).map xax)]:=xaa (fun k=>by
 simp only [Qke,true_and,show (0:Nat)≤16777216 by omega]
 refine xnc (l.take 4).length (fun i=>[.list 2 (l.map xaQ),I z,.str s,I i,.list 21 [],.list 21 (((l.take 4).map fun x=>xjk x z s).take i |>.map xax)]) (by simp) (fun i hi K=>?_) fun K=>?_
 ·have hx4:(l.take 4)[i]? = some ((l.take 4)[i]'hi):=List.getElem?_eq_getElem hi
  generalize (l.take 4)[i]'hi=x at hx4
  have hi4:i<4:=by simp at hi;omega
  have hil:i<l.length:=by simp at hi;omega
  have hx:l[i]? = some x:=by rw [List.getElem?_take_of_lt hi4] at hx4;exact hx4
  have hm:xaY x≤33554432:=by have:=h x (List.mem_of_getElem? hx);omega
  have e:=xv3 x z s hm hs
  have hy:((l.take 4).map fun x=>xjk x z s)[i]? = some (xjk x z s):=by rw [List.getElem?_map,hx4];rfl
  rw [xaW hy,List.map_append]
  simp [-getElem?_pos,-List.map_take,-List.length_take,Qke_r0,hx,hil,hi4,show (i:Int)<4 by omega,e,xal (show i<1000000000000000000 by omega)]
  intro _
  have:=List.length_take_le i (List.map (fun x=>xjk x z s) (List.take 4 l))
  omega
 ·have ht:((l.take 4).map fun x=>xjk x z s).take (l.take 4).length=xri l z s:=List.take_of_length_le (by simp)
  rw [ht]
  by_cases q:l.length≤4
  ·have:(l.take 4).length=l.length:=by simp;omega
   rw [this]
   by_cases q2:l.length<4<;>simp [Qke_r0,q2]
  ·have:(l.take 4).length=4:=by simp;omega
   rw [this]
   simp [Qke_r0,show (4:Int)<(l.length:Int) by omega]) k
theorem xhJ {l:List xa0} (h:∀x∈l,xaY x≤1048576) (hl:l.length≤1048576) (root:Int) (path:List ByteArray) (now:Int) (hp:path.length+xbl ByteArray.size path≤1048576) (k):call Qks [.one (.list 2 (l.map xaQ)),.one (I root),.one (strs path),.one (I now)] k=k (xdy (sBO l root path now).1++[.bool (sBO l root path now).2]):=xaa (fun k=>by
 have e:∀k,call Qki [.agg [.list 1 [],.list 51 []],.agg [.list 23 []],.one (.list 2 (l.map xaQ)),.one (I root),.one (strs path),.one (I now)] k=k (xtI (sBR l root path now)):=xf1 (fun z s hs k=>xj1 h hl z s hs k) (xmG h) (xnC l) zKn zCa root path xou xov (by omega)
 have e3:=xrK path (by omega)
 unfold sBO
 by_cases h1:(sBR l root path now).code=1
 ·simp [Qks,e,e3,h1,xdy]
 ·by_cases h2:(sBR l root path now).code=2
  ·simp [Qks,e,e3,h1,h2,xdy]
  ·simp [Qks,e,e3,h1,h2,xdy]<;>rfl) k
theorem mBO {l:List xa0} (h:∀x∈l,xaY x≤1048576) (root:Int) (path:List ByteArray) (now:Int) (hp:path.length+xbl ByteArray.size path≤1048576):xfJ (sBO l root path now).1≤4000000000:=by
 unfold sBO
 split
 ·have hc:OC (sBR l root path now).c:=xtU (xmG h) xou xov (by simp [zCa])
  have a1:=xma (f:=xcF) (b:=67108864) (l:=(sBR l root path now).c.Lst) (fun s hs=>by
   have:=hc.1.2 s hs
   have e:xcF s=s.Label.size+xaL s.Answer:=rfl
   have b1:=this.1
   have b2:=this.2
   omega)
  have a2:(sBR l root path now).c.Lst.length*67108864≤16*67108864:=Nat.mul_le_mul_right _ hc.2
  have a3:=hc.2
  have e1:xfJ ⟨root,path,(sBR l root path now).c.Lst⟩=(path.length+xbl ByteArray.size path)+xdH (sBR l root path now).c.Lst:=rfl
  have e2:xdH (sBR l root path now).c.Lst=(sBR l root path now).c.Lst.length+xbl xcF (sBR l root path now).c.Lst:=rfl
  simp only
  omega
 ·decide
theorem laws_FnExactBundleOf_law (pvss:List (List PV)) (h:xdc [[.list [.list [.list [.int .i64,.int .i64,.int .i64,.int .i64,.int .i64,.int .i64,.int .i64,.int .i64,.list [.int .i64],.int .i64,.list [.int .i64],.int .i64,.int .i64,.list [.int .i64],.int .i64,.bool,.list [.int .i64,.int .i64]],.list [.str,.int .i64,.int .i64,.list [.str]]],.int .i64]],[.int .i64],[.list [.str]],[.int .i64]] pvss):laws_FnExactBundleOf (xi5 Tryz.prog Tryz.f4.params.toList pvss) (fun o=>o=[PV.bool true]):=by
 obtain ⟨p0,r0,rfl,h0,hq0⟩:=xgi h
 obtain ⟨p1,r1,rfl,h1,hq1⟩:=xgi hq0
 obtain ⟨p2,r2,rfl,h2,hq2⟩:=xgi hq1
 obtain ⟨p3,r3,rfl,h3,hq3⟩:=xgi hq2
 rw [xq6 hq3]
 obtain ⟨v0,rfl,g0⟩:=xdz h0
 obtain ⟨x0,rfl,w0⟩:=xn9 g0
 obtain ⟨v1,rfl,g1⟩:=xdz h1
 obtain ⟨root,rfl⟩:=xbW g1
 obtain ⟨v2,rfl,g2⟩:=xdz h2
 obtain ⟨x2,rfl,w2⟩:=xnk g2
 obtain ⟨v3,rfl,g3⟩:=xdz h3
 obtain ⟨now,rfl⟩:=xbW g3
 rw [show xi5 Tryz.prog Tryz.f4.params.toList [[.list 2 (x0.map xaQ)],[I root],[strs x2],[I now]]=[.one (.list 2 (x0.map xaQ)),.one (I root),.one (strs x2),.one (I now)] by kernel_rfl]
 have t1:=xxc x0 1048576 w0 (by omega) (by omega)
 by_cases c0:((xbO x0:Nat):Int)≤1048576
 rotate_left
 ·simp only [laws_FnExactBundleOf,un,cur0,t1,xaO c0,xaq,xah,xaf,xbi,show ((-1:Int)<0) by omega,decide_true,if_true,xaw,xao,xai,xan,true_and]
 have t2:=xuY x2 (1048576-((xbO x0:Nat):Int)) w2 (by omega) (by omega)
 by_cases c1:(((x2.length+xbl ByteArray.size x2):Nat):Int)≤1048576-((xbO x0:Nat):Int)
 rotate_left
 ·simp only [laws_FnExactBundleOf,un,cur0,t1,t2,xbw c0,xaO c1,xaq,xah,xaf,xbi,show ¬(1048576-((xbO x0:Nat):Int)<0) by omega,show ((-1:Int)<0) by omega,decide_true,decide_false,Bool.false_eq_true,if_false,if_true,xaw,xao,xai,xan,true_and]
 have s0:xbO x0≤1048576:=by omega
 have s2:x2.length+xbl ByteArray.size x2≤1048576:=by omega
 have q1:=xw0 x0 s0
 have q2:=xv9 x0 s0
 have q3:=xuX x2 s2
 have q4:=xuv x2 s2
 obtain ⟨hx0,hx1⟩:x0.length≤1048576∧∀x∈x0,xaY x≤1048576:=by
  have e:xbO x0=x0.length+xbl xaY x0:=rfl
  refine ⟨by omega,fun x hx=>?_⟩
  have:=xbn (s:=xaY) hx
  omega
 obtain ⟨d_1,kz,e1,b1,b2,_⟩:=xkb x0 1 (by omega) (by omega)
 obtain ⟨d_2,kx,e2,b3,b4,_⟩:=xcq x2 kz (by omega) (by omega)
 have mz:∀K,call laws_markServerS [.one (.list 2 (x0.map xaQ)),.one (I 1)] K=K [d_1,I kz]:=xr3 e1 (by decide)
 have mx:∀K,call laws_markStringS [.one (strs x2),.one (I kz)] K=K [d_2,I kx]:=xr3 e2 (xdu (by omega) (by omega))
 have n1:¬(kx<0):=by omega
 have sp:=xhJ hx1 hx0 root x2 now s2
 have im:=xim hx1 hx0 root x2 now s2
 have hA:=mBO hx1 root x2 now s2
 generalize sBO x0 root x2 now=A at *
 obtain ⟨A,ok⟩:=A
 simp only at sp im hA
 have q5:=xib A (by omega)
 obtain ⟨a_1,a_2,kA,e3,b5,b6,hh⟩:=xla A 1 (by omega) (by omega)
 have mA:∀K,call laws_markBundle [.agg (xdy A),.one (I 1)] K=K [I A.Root,a_1,a_2,I kA]:=xuc e3 (by decide)
 have n2:¬(kA<0):=by omega
 have n0:¬(1048576-((xbO x0:Nat):Int)<0):=by omega
 have n3:¬(1048576-((xbO x0:Nat):Int)-(((x2.length+xbl ByteArray.size x2):Nat):Int)<0):=by omega
 simp only [laws_FnExactBundleOf,un,cur0,t1,t2,xbw c0,xbw c1,n0,n3,q1,q2,q3,q4,q5,sp,im,List.cons_append,List.nil_append,xaf,xbi,xba,Bool.not_true,xah,Bool.false_eq_true,if_false,xn3,xmx,xlt,xas,xan,xnl,true_and,mx,mz,xaq,n1,n2,decide_false,mA,hh,xbS,xek,bne_self_eq_false,xaw,xao,xai,and_true,and_self]
end Go.Ev
