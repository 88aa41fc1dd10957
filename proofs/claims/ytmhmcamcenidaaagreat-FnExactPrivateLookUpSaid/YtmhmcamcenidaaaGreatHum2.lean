/- What each function hands back, and that the law answers true, part 2. -/
import Derived.Test.YtmhmcamcenidaaaGreatHum1
set_option linter.unusedVariables false
set_option linter.unusedSimpArgs false
set_option maxHeartbeats 8000000
set_option maxRecDepth 8000
namespace Go.Ev
open Go.Proofs
theorem xdJ {α:Type} {sz:Nat} {l:List α} {f:α→List PV} (h:∀x∈l,∀p∈f x,p.flat=true):xbs (.list sz (l.map f)):=by
 intro r hr p hp
 obtain ⟨x,hx,rfl⟩:=List.mem_map.1 hr
 exact h x hx p hp
theorem xiw (l:List Int) (h:l.length≤33554432) (k):call Qdo [.one (ints l)] k=k [ints l]:=xaa (fun k=>by
 have hf:xbs (ints l):=xdJ fun x _ p hp=>by simp [rI] at hp;subst hp;rfl
 have hb:0+(l.map rI).length<1073741824:=by rw [List.length_map];omega
 simp only [Qdo,xpQ,xah,Bool.false_eq_true,if_false,if_true,xfN,hf,List.length_nil,hb,List.nil_append,xau,xdq,xaj,true_and,Nat.zero_le]
 refine ⟨fun q=>q.1,fun q=>⟨q,fun e=>?_⟩⟩
 simp only [Bool.not_false,if_true]
 have e2:=congrArg (PV.list 1) e
 rw [←e2];exact q) k
theorem xiT (l:List ByteArray) (h:l.length≤33554432) (k):call Qdu [.one (strs l)] k=k [strs l]:=xaa (fun k=>by
 have hf:xbs (strs l):=xdJ fun x _ p hp=>by simp [rS] at hp;subst hp;rfl
 have hb:0+(l.map rS).length<1073741824:=by rw [List.length_map];omega
 simp only [Qdu,xpQ,xah,Bool.false_eq_true,if_false,if_true,xfN,hf,List.length_nil,hb,List.nil_append,xau,xdq,xaj,true_and,Nat.zero_le]
 refine ⟨fun q=>q.1,fun q=>⟨q,fun e=>?_⟩⟩
 simp only [Bool.not_false,if_true]
 have e2:=congrArg (PV.list 1) e
 rw [←e2];exact q) k
theorem xmC (l:List xfP) (h:l.length≤33554432) (k):call Qdr [.one (.list 2 (l.map xcp))] k=k [.list 2 (l.map xcp)]:=xaa (fun k=>by
 have hf:xbs (.list 2 (l.map xcp)):=xdJ fun x _ p hp=>by simp [xcp] at hp;rcases hp with rfl | rfl<;>rfl
 have hb:0+(l.map xcp).length<1073741824:=by rw [List.length_map];omega
 simp only [Qdr,xpQ,xah,Bool.false_eq_true,if_false,if_true,xfN,hf,List.length_nil,hb,List.nil_append,xau,xdq,xaj,true_and,Nat.zero_le]
 refine ⟨fun q=>q.1,fun q=>⟨q,fun e=>?_⟩⟩
 simp only [Bool.not_false,if_true]
 have e2:=congrArg (PV.list 2) e
 rw [←e2];exact q) k
theorem xki {sz:Nat} {rows:List (List PV)} (h:rows.length≤33554432) (k:PV→Prop):xbA sz (.list sz rows) (.list sz []) k=k (.list sz rows):=by
 rw [xfN];simp;omega
theorem xsX (a:xb1) (h:xbm a≤33554432) (k):call Qdp [.agg (xcS a)] k=k (xcS a):=xaa (fun k=>by
 have e:=xiw a.Lst h
 simp [Qdp,e]) k
theorem xs6 (a:xb1) (h:xbm a≤33554432) (k):call Qbk [.agg (xcS a)] k=k (xcS a):=xaa (fun k=>by
 have h':(a.Lst.map rI).length≤33554432:=by rw [List.length_map];exact h
 simp only [Qbk,un,cur0,xki h',xau,xoc,xap,xaj,xas,true_and]) k
theorem xua (a:xa8) (h:xbB a≤33554432) (k):call Qdq [.agg (xbt a)] k=k (xbt a):=xaa (fun k=>by
 unfold xbB at h
 simp [Qdq,xsX a.Keys (by omega),xsX a.Heirs (by omega),xsX a.Judge (by omega)]) k
theorem xul (a:xa8) (h:xbB a≤33554432) (k):call Qbl [.agg (xbt a)] k=k (xbt a):=xaa (fun k=>by
 unfold xbB at h
 simp [Qbl,xs6 a.Keys (by omega),xs6 a.Heirs (by omega),xs6 a.Judge (by omega)]) k
theorem xmA (a:xaf) (h:xar a≤33554432) (k):call Qds [.agg (xam a)] k=k (xam a):=xaa (fun k=>by
 unfold xar at h
 simp [Qds,xua a.Head (by omega),xmC a.Sigs (by omega)]) k
theorem xlL (a:xaf) (h:xar a≤33554432) (k):call Qbm [.agg (xam a)] k=k (xam a):=xaa (fun k=>by
 unfold xar at h
 have h':(a.Sigs.map xcp).length≤33554432:=by rw [List.length_map];omega
 simp only [Qbm,un,cur0,xul a.Head (by omega),xki h']
 simp) k
theorem xgd {l:List xaf} (h:xan l≤33554432):l.length≤33554432∧∀x∈l,xar x≤33554432:=by
 unfold xan at h
 refine ⟨by omega,fun x hx=>?_⟩
 have:=xaZ (s:=xar) hx
 omega
theorem xrb (l:List xaf) (h:xan l≤33554432) (k):call Qdt [.one (.list 17 (l.map xam))] k=k [.list 17 (l.map xam)]:=xaa (fun k=>by
 obtain ⟨hl,hx0⟩:=xgd h
 simp only [Qdt,xay,List.length_map,true_and,show (0:Nat)≤16777216 by omega]
 refine xbD l (fun i=>[.list 17 (l.map xam),I l.length,I i,.list 17 [],.list 17 ((l.take i).map xam)]) (by simp) (fun i x hx hi K=>?_) fun K=>?_
 ·have e:=xmA x (hx0 x (List.mem_of_getElem? hx))
  rw [xaY hx,List.map_append]
  have hb:((l.take i).map xam).length+1<1073741824:=by simp;omega
  simp [-getElem?_pos,Qdt_r0,hx,hi,e,xal (show i<1000000000000000000 by omega)]
  omega
 ·simp [Qdt_r0]) k
theorem xrj (l:List xaf) (h:xan l≤33554432) (k):call Qbn [.one (.list 17 (l.map xam))] k=k [.list 17 (l.map xam)]:=xaa (fun k=>by
 obtain ⟨hl,hx0⟩:=xgd h
 simp only [Qbn,true_and,show (0:Nat)≤16777216 by omega]
 refine xbD l (fun i=>[.list 17 (l.map xam),I i,.list 17 [],.list 17 ((l.take i).map xam)]) (by simp) (fun i x hx hi K=>?_) fun K=>?_
 ·have e:=xlL x (hx0 x (List.mem_of_getElem? hx))
  rw [xaY hx,List.map_append]
  simp [-getElem?_pos,Qbn_r0,hx,hi,e,xal (show i<1000000000000000000 by omega)]
  omega
 ·simp [Qbn_r0]) k
theorem xlI (a:xav) (h:xaz a≤33554432) (k):call Qdv [.agg (xaF a)] k=k (xaF a):=xaa (fun k=>by
 unfold xaz at h
 simp [Qdv,xiT a.Path (by omega)]) k
theorem xwy (l:List ByteArray) (h:l.length≤33554432) (k):call Qbq [.one (strs l)] k=k [strs l]:=xaa (fun k=>by
 have hf:xbs (strs l):=xdJ fun x _ p hp=>by simp [rS] at hp;subst hp;rfl
 have hb:0+(l.map rS).length<1073741824:=by rw [List.length_map];omega
 simp only [Qbq,xfN,hf,List.length_nil,hb,List.nil_append,xau,xdq,xoc,xaj,true_and,Nat.zero_le]) k
theorem xlK (a:xav) (h:xaz a≤33554432) (k):call Qbr [.agg (xaF a)] k=k (xaF a):=xaa (fun k=>by
 unfold xaz at h
 simp [Qbr,xwy a.Path (by omega)]) k
def inR (n a b:Int):Bool:=decide (a≤n)&&decide (n≤b)
theorem xdC (n a b:Int) (k):call Qeb [.one (I n),.one (I a),.one (I b)] k=k [.bool (inR n a b)]:=xaa (fun k=>by
 simp [Qeb,inR];split<;>simp [*]) k
theorem xey (n a b:Int) (k):call Qbv [.one (I n),.one (I a),.one (I b)] k=k [.bool (inR n a b)]:=xaa (fun k=>by
 simp [Qbv,inR];split<;>simp [*]) k
theorem xba {α:Type} {l:List α} {i:Nat} {x:α} (h:l[i]? = some x):x∈l:=List.mem_of_getElem? h
theorem xdn {i:Nat} (h0:0<i) (h:i<1000000000000000000):IntKind.i64.wrap ((i:Int)-1)=((i-1:Nat):Int):=by
 rw [xbV (by omega) (by omega)];omega
theorem xqy {α:Type} {l:List α} {i:Nat} (d:α) (h:i<l.length):l[i]? = some (l.getD i d):=by
 rw [List.getD_eq_getElem?_getD,List.getElem?_eq_getElem h];rfl
def at0 (l:List Int) (i:Nat):Int:=l.getD i 0
theorem xir {l:List Int} {i:Nat} (h:i<l.length):l[i]? = some (at0 l i):=xqy 0 h
def xpR (l:List Int) (i:Nat) (x:Int):Bool:=decide (0<i)&&decide (x≤at0 l (i-1))
def xrp (l:List Int):Bool:=!xeV (xpR l) 0 l
theorem xwa (l:List Int) (h:l.length<1073741824) (k):call Qee [.one (ints l)] k=k [.bool (xrp l)]:=xaa (fun k=>by
 simp [Qee]
 have:=xhg (R:=fun L w=>Qee_r0 w L (k [.bool false]) fun q8 q9 q10 q11=>k [.bool true]) k false l (fun i=>[ints l,.bool false,I l.length,I i]) (xpR l) rfl (fun i x hx hi K=>?_) fun K=>?_
 ·simpa [xrp] using this
 ·by_cases h0:0<i
  ·have hp:=xir (l:=l) (show i-1<l.length by omega)
   simp [-getElem?_pos,Qee_r0,hx,hi,h0,xdn h0 (show i<1000000000000000000 by omega),hp,xal (show i<1000000000000000000 by omega),xpR]
  ·have h1:i=0:=by omega
   subst h1
   simp [-getElem?_pos,Qee_r0,hi,xpR,xbV]
 ·simp [Qee_r0]) k
def xcK (x:Int):Bool:=inR x 1 99
theorem xt9 (x:Int) (k):call Qef [.one (I x)] k=k [.bool (xcK x)]:=xaa (fun k=>by simp [Qef,xdC,xcK]) k
def xcW (a:xb1):Bool:=inR a.Lst.length 1 4&&!(a.Lst.any (fun x=>!xcK x)||!xrp a.Lst)&&inR a.Need 1 a.Lst.length
theorem xri (a:xb1) (h:xbm a≤33554432) (k):call Qbw [.agg [ints a.Lst,I a.Need]] k=k [.bool (xcW a)]:=xaa (fun k=>by
 unfold xbm at h
 simp [Qbw]
 refine (xgz (P:=k [.bool false]) (fin:=k [.bool (inR a.Lst.length 1 4&&inR a.Need 1 a.Lst.length)]) a.Lst (fun j=>[.bool false,I j,ints a.Lst,I a.Need]) (fun j y=>!xcK y||xpR a.Lst j y) rfl (fun j y hy hj K=>?_) fun K=>?_).trans ?_
 ·by_cases h0:0<j
  ·have hp:=xir (l:=a.Lst) (show j-1<a.Lst.length by omega)
   simp [-getElem?_pos,Qbw_r0,hy,hj,h0,xey,xdn h0 (show j<1000000000000000000 by omega),hp,xal (show j<1000000000000000000 by omega),xpR,xcK]
   cases inR y 1 99<;>simp
  ·have h1:j=0:=by omega
   subst h1
   simp [-getElem?_pos,Qbw_r0,hy,hj,xpR,xey,xcK,xbV]
 ·simp [Qbw_r0,xey]
  cases inR (a.Lst.length:Int) 1 4<;>simp
 ·rw [xpz,xfd]
  unfold xcW xrp
  generalize a.Lst.any (fun x=>!xcK x)=b1
  generalize xeV (xpR a.Lst) 0 a.Lst=b2
  cases b1<;>cases b2<;>simp) k
theorem xnk {l:List Int} (h:xrp l=true):∀{j i:Nat} {x y:Int},i<j→l[i]? = some x→l[j]? = some y→x<y:=by
 have h1:xeV (xpR l) 0 l=false:=by unfold xrp at h;simpa using h
 rw [xfc] at h1
 have step:∀{j:Nat} {x y:Int},l[j]? = some x→l[j+1]? = some y→x<y:=by
  intro j x y hx hy
  have:=h1 (j+1) y hy
  simp [xpR] at this
  have h2:at0 l j=x:=by
   have:=xir (xaM hx)
   rw [hx] at this;injection this with this;exact this.symm
  rw [h2] at this
  omega
 intro j
 induction j with
 | zero=>intro i x y hij;omega
 | succ j ih =>
  intro i x y hij hx hy
  have hj:j<l.length:=by have:=xaM hy;omega
  have hz:=List.getElem?_eq_getElem hj
  by_cases h2:i=j
  ·subst h2;exact step hx hy
  ·have a1:=ih (i:=i) (by omega) hx hz
   have a2:=step hz hy
   omega
theorem xpw {l:List Int} (h:xrp l=true) {x y:Int} (hx:l[0]? = some x) (hy:l[l.length-1]? = some y):(l.any fun z=>!xcK z)=(!(xcK x&&xcK y)):=by
 have hlast:∀{z:Int} {i:Nat},l[i]? = some z→x≤z∧z≤y:=by
  intro z i hz
  have hi:=xaM hz
  constructor
  ·by_cases h0:i=0
   ·subst h0;rw [hx] at hz;injection hz with hz;omega
   ·have:=xnk h (show 0<i by omega) hx hz;omega
  ·by_cases h0:i=l.length-1
   ·subst h0;rw [hy] at hz;injection hz with hz;omega
   ·have:=xnk h (show i<l.length-1 by omega) hz hy;omega
 cases hb:(xcK x&&xcK y) with
 | true =>
  simp only [Bool.and_eq_true,xcK,inR,decide_eq_true_eq] at hb
  rw [Bool.not_true,List.any_eq_false]
  intro z hz
  obtain ⟨i,hi⟩:=List.mem_iff_getElem?.1 hz
  have:=hlast hi
  simp [xcK,inR];omega
 | false =>
  rw [Bool.not_false,List.any_eq_true]
  by_cases hk:xcK x=true
  ·have hk2:xcK y=false:=by rw [hk] at hb;simpa using hb
   exact ⟨y,List.mem_of_getElem? hy,by simp [hk2]⟩
  ·exact ⟨x,List.mem_of_getElem? hx,by simpa using hk⟩
theorem xra (a:xb1) (h:xbm a≤33554432) (k):call Qeg [.agg [ints a.Lst,I a.Need]] k=k [.bool (xcW a)]:=xaa (fun k=>by
 unfold xbm at h
 simp [Qeg,xdC,xcW]
 cases h1:inR a.Lst.length 1 4 with
 | false=>simp
 | true =>
  have h2:1≤a.Lst.length:=by unfold inR at h1;simp at h1;omega
  simp [xwa a.Lst (by omega)]
  cases h3:xrp a.Lst with
  | false=>simp
  | true =>
   have hx:=xir (l:=a.Lst) (show 0<a.Lst.length by omega)
   have hy:=xir (l:=a.Lst) (show a.Lst.length-1<a.Lst.length by omega)
   have hr:=xpw h3 hx hy
   rw [hr]
   simp [-getElem?_pos,hx,hy,xt9,xdn (show 0<a.Lst.length by omega) (show a.Lst.length<1000000000000000000 by omega)]
   cases xcK (at0 a.Lst 0)<;>cases xcK (at0 a.Lst (a.Lst.length-1))<;>simp) k
deriving instance DecidableEq for xb1,xa8,xfP,xaf,xcb,xav,xcy,xkr,xaJ,xb4,xaR,xaS,xrO,xup,xpO,xrN,xuo
theorem xsR (l:List xaf) (p:xaf) (h:l.length≤33554432) (hp:l[l.length-1]? = some p) (k):call Qfp [.one (.list 17 (l.map xam))] k=k (xbt p.Head):=xaa (fun k=>by
 have h0:=xaM hp
 simp [-getElem?_pos,Qfp,xdn (show 0<l.length by omega) (show l.length<1000000000000000000 by omega),hp]) k
theorem xks {z:xb4} (h:xbZ z≤1048576):xan z.Chain≤1048576∧xbh z.Entries≤1048576:=by unfold xbZ at h;omega
theorem xgk {z:xb4} (h:xbZ z≤33554432):xan z.Chain≤33554432∧xbh z.Entries≤33554432:=by unfold xbZ at h;omega
theorem xeO {l:List xav} (h:xbh l≤1048576):l.length≤1048576∧∀x∈l,xaz x≤1048576:=by
 unfold xbh at h
 refine ⟨by omega,fun x hx=>?_⟩
 have:=xaZ (s:=xaz) hx
 omega
theorem xa2 {l:List xav} (h:xbh l≤33554432):l.length≤33554432∧∀x∈l,xaz x≤33554432:=by
 unfold xbh at h
 refine ⟨by omega,fun x hx=>?_⟩
 have:=xaZ (s:=xaz) hx
 omega
theorem xsW (a:xcy) (h:xbE a≤33554432) (k):call Qdy [.agg (xc7 a)] k=k (xc7 a):=xaa (fun k=>by
 unfold xbE at h
 simp [Qdy,xiw a.Path h]) k
theorem xs5 (a:xcy) (h:xbE a≤33554432) (k):call Qbs [.agg (xc7 a)] k=k (xc7 a):=xaa (fun k=>by
 unfold xbE at h
 have h':(a.Path.map rI).length≤33554432:=by rw [List.length_map];exact h
 simp only [Qbs,un,cur0,xki h',xau,xoc,xap,xaj,xas,true_and]) k
theorem xwd (a:xkr) (h:xhX a≤33554432) (k):call Qdz [.agg (xnb a)] k=k (xnb a):=xaa (fun k=>by
 unfold xhX at h
 simp [Qdz,xlI a.Before (by omega),xlI a.After (by omega),xsW a.Left (by omega),xsW a.Right (by omega)]) k
theorem xwx (a:xkr) (h:xhX a≤33554432) (k):call Qbt [.agg (xnb a)] k=k (xnb a):=xaa (fun k=>by
 unfold xhX at h
 simp [Qbt,xlK a.Before (by omega),xlK a.After (by omega),xs5 a.Left (by omega),xs5 a.Right (by omega)]) k
theorem xwc (a:xaJ) (h:xbn a≤33554432) (k):call Qea [.agg (xax a)] k=k (xax a):=xaa (fun k=>by
 unfold xbn at h
 simp [Qea,xrb a.Chain (by omega),xlI a.Entry (by omega),xsW a.Proof (by omega),xwd a.Gap (by omega)]) k
theorem xww (a:xaJ) (h:xbn a≤33554432) (k):call Qbu [.agg (xax a)] k=k (xax a):=xaa (fun k=>by
 unfold xbn at h
 simp [Qbu,xrj a.Chain (by omega),xlK a.Entry (by omega),xs5 a.Proof (by omega),xwx a.Gap (by omega)]) k
def xtn (n m:Int):Int:=if inR m 1 1000000000000=true then (wr (n.tmod m+m)).tmod m else 0
theorem xv9 (n m:Int) (k):call Qem [.one (I n),.one (I m)] k=k [I (xtn n m)]:=xaa (fun k=>by
 simp [Qem,xtn,xdC]
 cases h:inR m 1 1000000000000
 ·simp
 ·have:m≠0:=by simp [inR] at h;omega
  simp [this]) k
theorem xwv (n m:Int) (k):call Qca [.one (I n),.one (I m)] k=k [I (xtn n m)]:=xaa (fun k=>by
 simp [Qca,xtn,xey]
 cases h:inR m 1 1000000000000
 ·simp
 ·have:m≠0:=by simp [inR] at h;omega
  simp [this]) k
def xf5 (acc v:Int):Int:=(wr (wr (wr (acc*1000003)+xtn v 2147483647)+13)).tmod 2147483647
def xds (l:List Int):Int:=l.foldl xf5 11
theorem xlH (l:List Int) (hl:l.length<1000000000000000000) (k):call Qen [.one (ints l)] k=k [I (xds l)]:=xaa (fun k=>by
 simp [Qen]
 refine xbD l (fun i=>[I 0,I ((l.take i).foldl xf5 11),ints l,I l.length,I i]) rfl (fun i x hx hi K=>?_) fun K=>?_
 ·simp [-getElem?_pos,Qen_r0,hi,hx,xv9,xaY hx,xal (show i<1000000000000000000 by omega),xf5]
 ·simp [Qen_r0,xds]) k
theorem xlJ (l:List Int) (hl:l.length<1000000000000000000) (k):call Qcb [.one (ints l)] k=k [I (xds l)]:=xaa (fun k=>by
 simp [Qcb]
 refine xbD l (fun i=>[ints l,I 0,I ((l.take i).foldl xf5 11),I i]) rfl (fun i x hx hi K=>?_) fun K=>?_
 ·simp [-getElem?_pos,Qcb_r0,hi,hx,xwv,xaY hx,xal (show i<1000000000000000000 by omega),xf5]
 ·simp [Qcb_r0,xds]) k
def b2i (b:UInt8):Int:=b.toNat
def xtc (s:List UInt8):List Int:=(s.length:Int)::s.map b2i
theorem xvS (s:List UInt8) (hl:s.length<1000000000) (k):call Qga [.one (byts s)] k=k [ints (xtc s)]:=xaa (fun k=>by
 simp [Qga]
 refine xbD s (fun i=>[byts s,I s.length,I i,.list 1 [],ints ((s.length:Int)::(s.take i).map b2i)]) (by simp) (fun i x hx hi K=>?_) fun K=>?_
 ·have h2:min i s.length=i:=by omega
  simp [-getElem?_pos,Qga_r0,hi,hx,xaY hx,xal (show i<1000000000000000000 by omega),b2i,h2]
  rw [and_iff_right (by omega)]
  simp [ints,rI,Function.comp_def]
 ·simp [Qga_r0,xtc]) k
theorem xwi (s:List UInt8) (hl:s.length<1000000000) (k):call Qdb [.one (byts s)] k=k [ints (xtc s)]:=xaa (fun k=>by
 simp [Qdb]
 refine xbD s (fun i=>[byts s,I i,.list 1 [],ints ((s.length:Int)::(s.take i).map b2i)]) (by simp) (fun i x hx hi K=>?_) fun K=>?_
 ·have h2:min i s.length=i:=by omega
  simp [-getElem?_pos,Qdb_r0,hi,hx,xaY hx,xal (show i<1000000000000000000 by omega),b2i,h2]
  rw [and_iff_right (by omega)]
  simp [ints,rI,Function.comp_def]
 ·simp [Qdb_r0,xtc]) k
def xbr (s:ByteArray):List Int:=xtc s.data.toList
theorem xsQ (s:ByteArray) (hl:s.size<1000000000) (k):call Qgb [.one (.str s)] k=k [ints (xbr s)]:=xaa (fun k=>by
 simp [Qgb,xvS _ (show s.data.toList.length<1000000000 by simpa using hl),xbr]) k
theorem xsY (s:ByteArray) (hl:s.size<1000000000) (k):call Qdc [.one (.str s)] k=k [ints (xbr s)]:=xaa (fun k=>by
 simp [Qdc,xwi _ (show s.data.toList.length<1000000000 by simpa using hl),xbr]) k
theorem xbH (s:ByteArray):(xbr s).length=s.size+1:=by simp [xbr,xtc]
theorem xdP {α:Type} (f:α→Nat):∀(l:List α) (i:Nat) (x:α),l[i]? = some x→xbd f (l.take (i+1))=xbd f (l.take i)+f x
 | [],i,x,h=>by simp at h
 | a::l,0,x,h=>by simp at h;subst h;simp [xbd]
 | a::l,i+1,x,h=>by
  have:=xdP f l i x (by simpa using h)
  simp only [List.take_succ_cons,xbd,this];omega
theorem xcH {α:Type} (f:α→Nat):∀(l:List α) (i:Nat),xbd f (l.take i)≤xbd f l
 | [],i=>by simp
 | a::l,0=>by simp [xbd]
 | a::l,i+1=>by
  have:=xcH f l i
  simp only [List.take_succ_cons,xbd];omega
theorem xev {α:Type}:∀(ls:List (List α)),ls.flatten.length=xbd List.length ls
 | []=>rfl
 | l::ls=>by simp [xbd,xev ls]
theorem xv6 (n:Int) (h0:0≤n) (h:n<1073741824) (k):call Qeq [.nil 3 1,.one (I n)] k=k [ints []]:=xaa (fun k=>by
 have w0:IntKind.i64.wrap 0=0:=xbV (by omega) (by omega)
 have w1:IntKind.i64.wrap n=n:=xbV (by omega) (by omega)
 simp [Qeq,w0,w1,show ¬n<0 by omega,xlZ,xfh,xkg]
 by_cases hn:0<n
 ·simp [hn,h,h0,show n≤1073741823 by omega,show 0≤max n 0 by omega,ints]
 ·simp [hn,ints]) k
theorem xco (l:List Int):xbs (ints l):=by
 intro r hr p hp
 obtain ⟨x,_,rfl⟩:=List.mem_map.1 hr
 simp [rI] at hp
 subst hp;rfl
theorem xt8 (ls:List (List Int)) (h:ls.length+xbd List.length ls<1000000000) (k):call Qer [.one (.list 1 (ls.map fun l=>[ints l]))] k=k [ints ls.flatten]:=xaa (fun k=>by
 simp only [Qer,xay,List.length_map,xag]
 let L:PV:=.list 1 (ls.map fun l=>[ints l])
 refine xbD (fin:=k [ints ls.flatten]) ls (fun i=>[L,I ((xbd List.length (ls.take i):Nat):Int),L,I ls.length,I i,.list 1 []]) (by simp [xbd,L]) (fun i x hx hi K=>?_) (fun K=>?_)
 ·have e1:=xdP List.length ls i x hx
  have e2:=xcH List.length ls (i+1)
  have w1:IntKind.i64.wrap (((xbd List.length (ls.take i):Nat):Int)+(x.length:Int))=((xbd List.length (ls.take (i+1)):Nat):Int):=by
   rw [e1];rw [xbV (by omega) (by omega)];omega
  simp [-getElem?_pos,Qer_r0,hx,hi,L,w1,xal (show i<1000000000000000000 by omega),show ¬(((xbd List.length (ls.take (i+1)):Nat):Int)<0) by omega]
 ·simp only [Qer_r0,un,cur0,xao,xah,xay,L,List.take_length]
  simp [xv6 ((xbd List.length ls:Nat):Int) (by omega) (by omega)]
  refine xbD (fin:=k [ints ls.flatten]) ls (fun i=>[L,I ((xbd List.length ls:Nat):Int),L,I ls.length,I ls.length,L,I ls.length,I i,ints (ls.take i).flatten,.list 1 []]) (by simp [L]) (fun i x hx hi K=>?_) fun K=>?_
  ·have e1:=xdP List.length ls i x hx
   have e2:=xcH List.length ls (i+1)
   have e3:(ls.take (i+1)).flatten=(ls.take i).flatten++x:=by
    rw [List.take_add_one,hx];simp
   have e4:=xev (ls.take i)
   have e5:(ls.take i).flatten.length+x.length<1073741824:=by omega
   show _↔K [L,I ((xbd List.length ls:Nat):Int),L,I ls.length,I ls.length,L,I ls.length,I ((i+1:Nat):Int),ints (ls.take (i+1)).flatten,.list 1 []]
   rw [e3]
   generalize (ls.take i).flatten=A at e5
   rw [show ints (A++x)=PV.list 1 (A.map rI++x.map rI) by simp [ints]]
   simp [-getElem?_pos,Qer_r1,hx,hi,L,xco,xbA,xal (show i<1000000000000000000 by omega),e5]
  ·simp [Qer_r1,L]) k
def xa3 (a:xb1):List Int:=a.Need::(a.Lst.length:Int)::a.Lst
def xqO (b:Bool):Int:=if b=true then 1 else 0
def xa1 (a:xa8):List Int :=
 [a.Zone,a.Epoch,a.Kind,a.Time,a.Until,a.Count,a.Root,a.Prev]++(xa3 a.Keys++(xa3 a.Heirs++([a.Wait]++(xa3 a.Judge++[xqO a.Frozen]))))
theorem xbM (n:Int):xae [.pv (I 0)] [.pv (I n)]:=by intro x hx;simp at hx;subst hx;rfl
theorem xrh (a:xb1) (h:xbm a≤33554432) (k):call Qbz [.agg (xcS a)] k=k [ints (xa3 a)]:=xaa (fun k=>by
 unfold xbm at h
 simp [Qbz,xa3,xco,xbM,xbA,show 2+a.Lst.length<1073741824 by omega]
 exact Iff.rfl) k
theorem xq9 (a:xb1) (h:xbm a≤33554432) (k):call Qel [.agg (xcS a)] k=k [ints (xa3 a)]:=xaa (fun k=>by
 unfold xbm at h
 simp [Qel,xa3,xco,xbM,xbA,show 2+a.Lst.length<1073741824 by omega]
 exact Iff.rfl) k
theorem xv7 (b:Bool) (k):call Qep [.one (.bool b)] k=k [I (xqO b)]:=xaa (fun k=>by
 cases b<;>simp [Qep,xqO]) k
theorem xb2 (a:xb1):(xa3 a).length=2+a.Lst.length:=by simp [xa3];omega
theorem xrB (i:Nat):xae [.nil 3 1] [.own i]:=by intro x hx;simp at hx;subst hx;trivial
theorem xq8 (a:xa8) (h:xbB a≤33554432) (k):call Qes [.agg (xbt a)] k=k [ints (xa1 a)]:=xaa (fun k=>by
 unfold xbB at h
 have k1:=xq9 a.Keys (by omega)
 have k2:=xq9 a.Heirs (by omega)
 have k3:=xq9 a.Judge (by omega)
 have l1:=xb2 a.Keys
 have l2:=xb2 a.Heirs
 have l3:=xb2 a.Judge
 unfold xbm at h
 have c:=xt8 [[a.Zone,a.Epoch,a.Kind,a.Time,a.Until,a.Count,a.Root,a.Prev],xa3 a.Keys,xa3 a.Heirs,[a.Wait],xa3 a.Judge,[xqO a.Frozen]] (by
  simp only [xbd,List.length_cons,List.length_nil,l1,l2,l3];omega) (fun o=>k [atP o 0])
 simp only [Qes,un,cur0,k1,k2,k3,xv7,xbM,xrB,xag,true_and,and_true,xau,xdq,show (1:Nat)≤16777216 by omega,show (2:Nat)≤16777216 by omega,show (6:Nat)≤16777216 by omega,show (8:Nat)≤16777216 by omega,xaj]
 exact iff_of_eq c) k
theorem xpL (a:xa8) (h:xbB a≤33554432) (k):call Qcd [.agg (xbt a)] k=k [ints (xa1 a)]:=xaa (fun k=>by
 unfold xbB at h
 have k1:=xrh a.Keys (by omega)
 have k2:=xrh a.Heirs (by omega)
 have k3:=xrh a.Judge (by omega)
 have l1:=xb2 a.Keys
 have l2:=xb2 a.Heirs
 have l3:=xb2 a.Judge
 unfold xbm at h
 simp only [Qcd,un,cur0,k1,k2,k3,xbM,xag,true_and,and_true,xau,show (8:Nat)≤16777216 by omega,xaj]
 have e:ints (xa1 a)=PV.list 1 (([[I a.Zone],[I a.Epoch],[I a.Kind],[I a.Time],[I a.Until],[I a.Count],[I a.Root],[I a.Prev]]++((xa3 a.Keys).map rI++((xa3 a.Heirs).map rI++([[I a.Wait]]++((xa3 a.Judge).map rI++[[I (xqO a.Frozen)]])))))):=by
  simp [ints,xa1]
 rw [e]
 cases hf:a.Frozen<;>simp [xbA,l1,l2,l3,xbM,xqO]
 all_goals exact ⟨fun h=>h.2.2.2.2.2,fun h=>⟨by omega,by omega,by omega,by omega,by omega,h⟩⟩) k
theorem xjf {α:Type} [DecidableEq α] {eq:α→α→Bool} (h:∀x y,eq x y=decide (x=y)):∀(l m:List α),xdx eq l m=decide (l=m)
 | [],[]=>by simp [xdx]
 | [],y::m=>by simp [xdx]
 | x::l,[]=>by simp [xdx]
 | x::l,y::m=>by rw [xdx,xjf h l m,h];simp [Bool.decide_and]
abbrev eqD {α:Type} [DecidableEq α] (x y:α):Bool:=decide (x=y)
theorem xe5 {α:Type} [DecidableEq α] (l m:List α):xdx eqD l m=decide (l=m):=xjf (fun _ _=>rfl) l m
theorem xjg {α:Type} [DecidableEq α] {l m:List α} (h:¬l.length=m.length):decide (l=m)=false:=by simp;intro e;subst e;exact h rfl
theorem xsT (l m:List Int) (h:l.length<1073741824) (k):call Qfg [.one (ints l),.one (ints m)] k=k [.bool (decide (l=m))]:=xaa (fun k=>by
 simp [Qfg]
 by_cases hl:l.length=m.length
 ·rw [←xe5]
  simp [hl]
  refine xgy k l m (fun i=>[ints l,ints m,.bool false,I m.length,I i]) eqD rfl hl (fun i x y hx hy hi hj K=>?_) fun K=>?_
  ·simp [-getElem?_pos,Qfg_r0,hx,hy,hj,xal (show i<1000000000000000000 by omega)]
  ·simp [Qfg_r0,hl]
 ·simp [show ¬(l.length:Int)=m.length by omega,xjg hl]) k
theorem xs0 (l m:List Int) (h:l.length<1073741824) (k):call Qcm [.one (ints l),.one (ints m)] k=k [.bool (decide (l=m))]:=xaa (fun k=>by
 simp [Qcm]
 by_cases hl:l.length=m.length
 ·rw [←xe5]
  simp [hl]
  refine xgy k l m (fun i=>[ints l,ints m,.bool false,I i]) eqD rfl hl (fun i x y hx hy hi hj K=>?_) fun K=>?_
  ·simp [-getElem?_pos,Qcm_r0,hx,hy,hi,xal (show i<1000000000000000000 by omega)]
  ·simp [Qcm_r0]
 ·simp [show ¬(l.length:Int)=m.length by omega,xjg hl]) k
theorem xmz (a b:xb1) (h:xbm a≤33554432) (k):call Qfh [.agg (xcS a),.agg (xcS b)] k=k [.bool (decide (a=b))]:=xaa (fun k=>by
 unfold xbm at h
 obtain ⟨l,n⟩:=a
 obtain ⟨m,q⟩:=b
 simp [Qfh,xsT l m (by simp at h;omega)]
 by_cases hl:l=m<;>by_cases hn:n=q<;>simp [hl,hn,show (n==q)=decide (n=q) from rfl]) k
theorem xc6 (a:xa8):(xa1 a).length=16+xbB a:=by simp [xa1,xa3,xbB,xbm];omega
theorem xb9 {b c:Bool} {P:Prop} {k:List PV→Prop} (h:b=true→(P↔k [.bool c])):(if b=true then P else k [.bool false])↔k [.bool (b&&c)]:=by
 cases b
 ·simp
 ·simpa using h rfl
theorem xhx {b c:Bool} {P:Prop} {k:List PV→Prop} (h:b=true→(P↔k [.bool c])):(if (!b)=true then k [.bool false] else P)↔k [.bool (b&&c)]:=by
 cases b
 ·simp
 ·simpa using h rfl
def sNo (a:xb1):Bool:=decide (a.Need=0)&&decide (a.Lst.length=0)
theorem xn1 (a:xb1) (k):call Qeh [.agg (xcS a)] k=k [.bool (sNo a)]:=xaa (fun k=>by
 have e:((a.Lst.length:Int)==0)=decide (a.Lst.length=0):=by
  by_cases h:a.Lst.length=0
  ·rw [h];rfl
  ·rw [decide_eq_false h];exact beq_eq_false_iff_ne.2 (by omega)
 simp only [Qeh,un,cur0,xaI,xay,List.length_map,e,sNo,xah,xau,xap,xaj,xaq,true_and,and_true]
 by_cases h:a.Need=0<;>simp [h]) k
theorem xs4 (a:xb1) (k):call Qbx [.agg (xcS a)] k=k [.bool (sNo a)]:=xaa (fun k=>by
 have e:((a.Lst.length:Int)==0)=decide (a.Lst.length=0):=by
  by_cases h:a.Lst.length=0
  ·rw [h];rfl
  ·rw [decide_eq_false h];exact beq_eq_false_iff_ne.2 (by omega)
 simp only [Qbx,un,cur0,xaI,xay,List.length_map,e,sNo,xah,xau,xap,xaj,xaq,true_and,and_true]
 by_cases h:a.Need=0<;>simp [h]) k
theorem xmK {a:xb1} (h:sNo a=true):xcW a=false:=by
 unfold sNo at h
 simp only [Bool.and_eq_true,decide_eq_true_eq] at h
 unfold xcW inR
 simp [h.2]
def xkC (a:xb1):Bool:=sNo a||xcW a
def xmL (a:xa8):Bool:=xcW a.Judge||(sNo a.Judge&&!a.Frozen)
def xr3 (a:xa8):Bool:=if sNo a.Heirs=true then decide (a.Wait=0)&&xmL a else xcW a.Heirs&&(inR a.Wait 1 500&&xmL a)
def xcD (a:xa8):Bool :=
 inR a.Zone 0 2147483646&&(inR a.Root 0 2147483646&&(inR a.Prev 0 2147483646&&(inR a.Epoch 0 200&&(inR a.Kind 1 3&&(inR a.Time 0 100000&&(inR a.Until a.Time 100000&&(decide (a.Until-a.Time≤200) &&
 (inR a.Count 0 12&&(xcW a.Keys&&xr3 a)))))))))
theorem xdb {a:xa8} (h:xbB a≤33554432):xbm a.Keys≤33554432∧xbm a.Heirs≤33554432∧xbm a.Judge≤33554432:=by unfold xbB at h;omega
theorem xs3 (a:xa8) (h:xbB a≤33554432) (k):call Qby [.agg (xbt a)] k=k [.bool (xcD a)]:=xaa (fun k=>by
 obtain ⟨h1,h2,h3⟩:=xdb h
 have e1:=xri a.Keys h1
 have e2:=xri a.Heirs h2
 have e3:=xri a.Judge h3
 simp only [Qby,un,cur0,xey,e1,e2,e3,xs4,xbg,xag,xah,xau,xap,xaj,xaq,true_and,and_true,xbu,xbp]
 refine xhx fun _=>xhx fun _=>xhx fun _=>xhx fun _=>xhx fun _=>xhx fun ht=>xhx fun hu=>?_
 have hw:IntKind.i64.wrap (a.Until-a.Time)=a.Until-a.Time:=by
  simp only [inR,Bool.and_eq_true,decide_eq_true_eq] at ht hu
  exact xbV (by omega) (by omega)
 rw [hw,show decide (200<a.Until-a.Time)=!decide (a.Until-a.Time≤200) by by_cases h:a.Until-a.Time≤200<;>simp [h]<;>omega]
 refine xhx fun _=>xhx fun _=>xhx fun _=>?_
 unfold xr3 xmL
 cases sNo a.Heirs<;>cases xcW a.Heirs<;>cases inR a.Wait 1 500<;>cases xcW a.Judge<;>cases sNo a.Judge<;>cases a.Frozen<;>by_cases hz:a.Wait=0<;>simp [hz]) k
theorem xsf:∀(nh kh nj kj wt w0 fr:Bool) (h1:nh=true→kh=false) (h2:nj=true→kj=false),((nh||kh)&&((nj||kj)&&((if nh=true then w0 else wt)&&!(fr&&nj))))=(if nh=true then w0&&(kj||(nj&&!fr)) else kh&&(wt&&(kj||(nj&&!fr)))):=by decide
theorem xsV (a:xa8) (h:xbB a≤33554432) (k):call Qek [.agg (xbt a)] k=k [.bool (xcD a)]:=xaa (fun k=>by
 obtain ⟨h1,h2,h3⟩:=xdb h
 have e1:=xra a.Keys h1
 have e2:=xra a.Heirs h2
 have e3:=xra a.Judge h3
 have d:∀x k,call Qec [.one (I x)] k=k [.bool (inR x 0 2147483646)]:=fun x=>xaa (fun k=>by simp [Qec,xdC])
 have m2:∀k,call Qei [.agg (xcS a.Heirs)] k=k [.bool (xkC a.Heirs)]:=xaa (fun k=>by
  simp [Qei,xn1,e2,xkC];cases sNo a.Heirs<;>simp)
 have m3:∀k,call Qei [.agg (xcS a.Judge)] k=k [.bool (xkC a.Judge)]:=xaa (fun k=>by
  simp [Qei,xn1,e3,xkC];cases sNo a.Judge<;>simp)
 have m4:∀k,call Qej [.one (I a.Wait),.agg (xcS a.Heirs)] k=k [.bool (if sNo a.Heirs=true then decide (a.Wait=0) else inR a.Wait 1 500)]:=xaa (fun k=>by
  simp [Qej,xn1,xdC];cases sNo a.Heirs<;>simp
  by_cases hz:a.Wait=0
  ·simp [hz]
  ·rw [show (a.Wait==0)=false from beq_eq_false_iff_ne.2 hz];simp [hz])
 have m5:∀k,call Qed [.agg (xbt a)] k=k [.bool (inR a.Time 0 100000&&(inR a.Until a.Time 100000&&decide (a.Until-a.Time≤200)))]:=xaa (fun k=>by
  simp only [Qed,un,cur0,xb8,xfb,xbu,xah,xau,xap,xaj,xaq,true_and,and_true]
  by_cases c1:0≤a.Time
  ·by_cases c2:a.Time≤a.Until
   ·by_cases c3:a.Until≤100000
    ·rw [xbV (show -9223372036854775808≤a.Until-a.Time by omega) (by omega)]
     simp [c1,c2,c3,inR,show a.Time≤100000 by omega]
    ·simp [c1,c2,c3,inR]
   ·simp [c1,c2,inR]
  ·simp [c1,inR])
 simp only [Qek,un,cur0,d,xdC,e1,m2,m3,m4,m5,xn1,xbg,xag,xah,xau,xap,xaj,xaq,true_and,and_true]
 have key:∀z r p e q sp c ks mh mj wt no fr:Bool,(if z=true then if r=true then if p=true then if e=true then if q=true then if sp=true then if c=true then if ks=true then if mh=true then if mj=true then if wt=true then
  if fr=true then k [.bool !no] else k [.bool true] else k [.bool false] else k [.bool false] else k [.bool false] else k [.bool false] else k [.bool false] else k [.bool false] else k [.bool false] else k [.bool false] else k [.bool false] else k [.bool false] else k [.bool false]) ↔
  k [.bool (z&&(r&&(p&&(e&&(q&&(sp&&(c&&(ks&&(mh&&(mj&&(wt&&!(fr&&no))))))))))))]:=by
  intro z r p e q sp c ks mh mj wt no fr
  refine xb9 fun _=>xb9 fun _=>xb9 fun _=>xb9 fun _=>xb9 fun _=>xb9 fun _=>xb9 fun _=>xb9 fun _=>xb9 fun _=>xb9 fun _=>xb9 fun _=>?_
  cases fr<;>simp
 refine (key _ _ _ _ _ _ _ _ _ _ _ _ _).trans ?_
 apply iff_of_eq
 congr 3
 unfold xcD xr3 xmL xkC
 simp only [Bool.and_assoc]
 rw [xsf _ _ _ _ _ _ _ (@xmK a.Heirs) (@xmK a.Judge)]) k
theorem xec (a b:Int):(a==b)=decide (a=b):=by
 by_cases h:a=b
 ·subst h;simp
 ·rw [decide_eq_false h];exact beq_eq_false_iff_ne.2 h
def sKH (key:Int) (m:List Int):Int:=xds (key::(m++[key]))
theorem xv5 (key:Int) (m:List Int) (h:m.length<900000000) (k):call Qet [.one (I key),.one (ints m)] k=k [I (sKH key m)]:=xaa (fun k=>by
 have e:∀k,call Qer [.one (.list 1 [[.list 1 [[I key]]],[ints m],[.list 1 [[I key]]]])] k=k [ints (key::(m++[key]))]:=fun k=>by
  have:=xt8 [[key],m,[key]] (by simp [xbd];omega) k
  simpa [ints] using this
 have e2:=xlH (key::(m++[key])) (by simp;omega)
 simp only [Qet,un,cur0,xbM,xrB,true_and,e,xag,e2,xau,xap,xaj,xas]
 simp [sKH]) k
theorem xwt (key:Int) (m:List Int) (h:m.length<900000000) (k):call Qce [.one (I key),.one (ints m)] k=k [I (sKH key m)]:=xaa (fun k=>by
 have e2:=xlJ (key::(m++[key])) (by simp;omega)
 have e3:(PV.list 1 ([I key]::(m.map rI++[[I key]])))=ints (key::(m++[key])):=by simp [ints]
 simp [Qce,xbM,xco,xbA,show 1+m.length<1073741824 by omega]
 rw [e3,e2]
 simp [sKH]
 try (intros;omega)) k
def xr4 (key:Int) (m:List Int):Int:=sKH key (223::m)
theorem xv4 (key:Int) (m:List Int) (h:m.length<800000000) (k):call Qeu [.one (I key),.one (ints m)] k=k [I (xr4 key m)]:=xaa (fun k=>by
 have e2:=xv5 key (223::m) (by simp;omega)
 have e3:PV.list 1 ([I 223]::m.map rI)=ints (223::m):=by simp [ints]
 simp [Qeu,xbM,xco,xbA,show 1+m.length<1073741824 by omega]
 rw [e3,e2]
 simp [xr4]
 try (intros;omega)) k
theorem xws (key:Int) (m:List Int) (h:m.length<800000000) (k):call Qcf [.one (I key),.one (ints m)] k=k [I (xr4 key m)]:=xaa (fun k=>by
 have e2:=xwt key (223::m) (by simp;omega)
 have e3:PV.list 1 ([I 223]::m.map rI)=ints (223::m):=by simp [ints]
 simp [Qcf,xbM,xco,xbA,show 1+m.length<1073741824 by omega]
 rw [e3,e2]
 simp [xr4]
 try (intros;omega)) k
def xhH (a:xa8):Int:=xds (233::xa1 a)
theorem xv0 (a:xa8) (h:xbB a≤33554432) (k):call Qfd [.agg (xbt a)] k=k [I (xhH a)]:=xaa (fun k=>by
 have hl:=xc6 a
 have e1:=xq8 a h
 have e2:=xlH (233::xa1 a) (by simp;omega)
 have e3:PV.list 1 ([I 233]::(xa1 a).map rI)=ints (233::xa1 a):=by simp [ints]
 simp [Qfd,xbM,e1,xbA,show 1+(xa1 a).length<1073741824 by omega]
 rw [e3,e2]
 simp [xhH]
 try (intros;omega)) k
theorem xwp (a:xa8) (h:xbB a≤33554432) (k):call Qck [.agg (xbt a)] k=k [I (xhH a)]:=xaa (fun k=>by
 have hl:=xc6 a
 have e1:=xpL a h
 have e2:=xlJ (233::xa1 a) (by simp;omega)
 have e3:PV.list 1 ([I 233]::(xa1 a).map rI)=ints (233::xa1 a):=by simp [ints]
 simp [Qck,xbM,e1,xbA,show 1+(xa1 a).length<1073741824 by omega]
 rw [e3,e2]
 simp [xhH]
 try (intros;omega)) k
def xhC (a:xb1) (salt:Int):Int:=xds (239::salt::xa3 a)
theorem xv8 (a:xb1) (salt:Int) (h:xbm a≤33554432) (k):call Qeo [.agg (xcS a),.one (I salt)] k=k [I (xhC a salt)]:=xaa (fun k=>by
 have hl:=xb2 a
 have h':=h
 unfold xbm at h'
 have e1:=xq9 a h
 have e2:=xlH (239::salt::xa3 a) (by simp;omega)
 have e3:PV.list 1 ([I 239]::[I salt]::(xa3 a).map rI)=ints (239::salt::xa3 a):=by simp [ints]
 simp [Qeo,xbM,e1,xbA,show 2+(xa3 a).length<1073741824 by omega]
 rw [e3,e2]
 simp [xhC]
 try (intros;omega)) k
theorem xwu (a:xb1) (salt:Int) (h:xbm a≤33554432) (k):call Qcc [.agg (xcS a),.one (I salt)] k=k [I (xhC a salt)]:=xaa (fun k=>by
 have hl:=xb2 a
 have h':=h
 unfold xbm at h'
 have e1:=xrh a h
 have e2:=xlJ (239::salt::xa3 a) (by simp;omega)
 have e3:PV.list 1 ([I 239]::[I salt]::(xa3 a).map rI)=ints (239::salt::xa3 a):=by simp [ints]
 simp [Qcc,xbM,e1,xbA,show 2+(xa3 a).length<1073741824 by omega]
 rw [e3,e2]
 simp [xhC]
 try (intros;omega)) k
def xog (m:List Int) (s:xfP):Bool:=xcK s.Key&&decide (s.Tag=xr4 s.Key m)
theorem xv3 (s:xfP) (m:List Int) (h:m.length<800000000) (k):call Qev [.agg (xcp s),.one (ints m)] k=k [.bool (xog m s)]:=xaa (fun k=>by
 have e:=xv4 s.Key m h
 simp only [Qev,un,cur0,xt9,e,xag,xaI,xah,xau,xap,xaj,xaq,true_and,and_true]
 exact xb9 (c:=decide (s.Tag=xr4 s.Key m)) fun _=>by rw [xec]) k
theorem xwr (s:xfP) (m:List Int) (h:m.length<800000000) (k):call Qcg [.agg (xcp s),.one (ints m)] k=k [.bool (xog m s)]:=xaa (fun k=>by
 have e:=xws s.Key m h
 simp only [Qcg,un,cur0,xey,e,xag,xaI,xah,xau,xap,xaj,xaq,true_and,and_true]
 exact xb9 (b:=xcK s.Key) (c:=decide (s.Tag=xr4 s.Key m)) fun _=>by rw [xec]) k
def xlM (m:List Int) (key:Int) (s:xfP):Bool:=decide (s.Key=key)&&xog m s
def xkD (a:xb1) (m:List Int) (l:List xfP):Nat:=a.Lst.countP fun key=>l.any (xlM m key)
theorem xdQ (l:List xfP) (key:Int) (m:List Int) (hl:l.length≤33554432) (h:m.length<800000000) (k):call Qey [.one (.list 2 (l.map xcp)),.fn 433 [.cells [I key],.cells [ints m]]] k=k [.bool (l.any (xlM m key))]:=xaa (fun k=>by
 have e:∀k,call Qex [.one (.list 2 (l.map xcp)),.fn 433 [.cells [I key],.cells [ints m]]] k=k [I (idx (xlM m key) l)]:=xaa (fun k=>by
  simp [Qex]
  refine xek (Q:=fun i=>k [I i]) l (fun i=>[.list 2 (l.map xcp),I key,ints m,I 0,I l.length,I i]) (xlM m key) rfl (fun i x hx hi K=>?_) fun K=>?_
  ·have e1:∀k,call Qew [.agg (xcp x),.ro (.cells [I key]),.ro (.cells [ints m])] k=k [.bool (xlM m key x)]:=xaa (fun k=>by
    have e:=xv3 x m h
    simp only [Qew,un,cur0,xaI,e,xag,xah,xau,xap,xaj,xaq,true_and,and_true]
    by_cases hk:x.Key=key<;>simp [hk,xlM])
   simp [-getElem?_pos,Qex_r0,hx,hi,e1,xal (show i<1000000000000000000 by omega)]
  ·simp [Qex_r0])
 simp [Qey,e,xmc]) k
theorem xv2 (a:xb1) (m:List Int) (l:List xfP) (h:xbm a≤33554432) (hm:m.length<800000000) (hl:l.length≤33554432) (k):call Qez [.agg (xcS a),.one (ints m),.one (.list 2 (l.map xcp))] k=k [I (xkD a m l)]:=xaa (fun k=>by
 unfold xbm at h
 simp [Qez]
 refine xbD a.Lst (fun i=>[.list 2 (l.map xcp),I 0,I ((a.Lst.take i).countP fun key=>l.any (xlM m key):Nat),ints a.Lst,I a.Lst.length,I i,ints m]) rfl (fun i x hx hi K=>?_) fun K=>?_
 ·have hc:(a.Lst.take i).countP (fun key=>l.any (xlM m key))≤i:=Nat.le_trans List.countP_le_length (by simp;omega)
  have e:=xdQ l x m hl hm
  simp only [Qez_r0,un,cur0,xao,xah,show decide ((i:Int)<a.Lst.length)=true by simp;omega,if_true,xai,ints,List.getElem?_map,hx,Int.toNat_natCast,Option.map_some,true_and,xag,rI]
  rw [show PV.list 1 (m.map fun n=>[I n])=ints m from rfl]
  simp only [e,xag,xah,xbb,xal (show i<1000000000000000000 by omega),xal (show (a.Lst.take i).countP (fun key=>l.any (xlM m key))<1000000000000000000 by omega)]
  rw [xaY hx,List.countP_append,List.countP_cons,List.countP_nil]
  cases hb:l.any (xlM m x)<;>simp [hb]
 ·simp [Qez_r0,xkD]) k
theorem xwq (a:xb1) (m:List Int) (l:List xfP) (h:xbm a≤33554432) (hm:m.length<800000000) (hl:l.length≤33554432) (k):call Qch [.agg (xcS a),.one (ints m),.one (.list 2 (l.map xcp))] k=k [I (xkD a m l)]:=xaa (fun k=>by
 unfold xbm at h
 simp only [Qch,un,cur0,xau,xap,xaj,xas,true_and]
 refine xbD a.Lst (fun i=>[ints m,.list 2 (l.map xcp),I 0,I ((a.Lst.take i).countP fun key=>l.any (xlM m key):Nat),I i,ints a.Lst,I a.Need]) rfl (fun i x hx hi K=>?_) fun K=>?_
 ·have hc:(a.Lst.take i).countP (fun key=>l.any (xlM m key))≤i:=Nat.le_trans List.countP_le_length (by simp;omega)
  simp [-getElem?_pos,Qch_r0,hi]
  rw [xaY hx,List.countP_append,List.countP_cons,List.countP_nil]
  generalize hn:(a.Lst.take i).countP (fun key=>l.any (xlM m key))=n at hc
  refine (xoO (P:=K [ints m,.list 2 (l.map xcp),I 0,I ((n+1:Nat):Int),I ((i+1:Nat):Int),ints a.Lst,I a.Need]) (fin:=K [ints m,.list 2 (l.map xcp),I 0,I (n:Int),I ((i+1:Nat):Int),ints a.Lst,I a.Need]) l (fun j=>[ints m,.list 2 (l.map xcp),I 0,I (n:Int),I i,I j,ints a.Lst,I a.Need]) (xlM m x) rfl (fun j y hy hj K=>?_) fun K=>?_).trans ?_
  ·have e:=xwr y m hm
   simp [-getElem?_pos,Qch_r1,hx,hy,hj,e,xlM,xal (show j<1000000000000000000 by omega),xal (show n<1000000000000000000 by omega),xal (show i<1000000000000000000 by omega)]
   by_cases hk:y.Key=x<;>simp [hk]
  ·simp [Qch_r1,xal (show i<1000000000000000000 by omega)]
  ·cases hb:l.any (xlM m x)<;>simp [hb]
 ·simp [Qch_r0,xkD]) k
def xhG (a:xb1) (m:List Int) (l:List xfP):Bool:=xcW a&&decide (a.Need≤(xkD a m l:Int))
theorem xv1 (a:xb1) (m:List Int) (l:List xfP) (h:xbm a≤33554432) (hm:m.length<800000000) (hl:l.length≤33554432) (k):call Qfa [.agg (xcS a),.one (ints m),.one (.list 2 (l.map xcp))] k=k [.bool (xhG a m l)]:=xaa (fun k=>by
 have e1:=xra a h
 have e2:=xv2 a m l h hm hl
 simp only [Qfa,un,cur0,e1,e2,xag,xah,xau,xap,xaj,xaq,true_and,and_true,xb8]
 exact xb9 fun _=>Iff.rfl) k
theorem xrg (a:xb1) (m:List Int) (l:List xfP) (h:xbm a≤33554432) (hm:m.length<800000000) (hl:l.length≤33554432) (k):call Qci [.agg (xcS a),.one (ints m),.one (.list 2 (l.map xcp))] k=k [.bool (xhG a m l)]:=xaa (fun k=>by
 have e1:=xri a h
 have e2:=xwq a m l h hm hl
 simp only [Qci,un,cur0,e1,e2,xag,xah,xau,xap,xaj,xaq,true_and,and_true,xb8]
 exact xb9 fun _=>Iff.rfl) k
theorem xa4 {s:xaf} (h:xar s≤33554432):xbB s.Head≤33554432∧s.Sigs.length≤33554432∧(xa1 s.Head).length<800000000:=by
 have hl:=xc6 s.Head
 unfold xar at h
 omega
def sBy (s:xaf) (a:xb1):Bool:=xhG a (xa1 s.Head) s.Sigs
theorem xcm (s:xaf) (a:xb1) (h:xar s≤33554432) (ha:xbm a≤33554432) (k):call Qfb [.agg (xam s),.agg (xcS a)] k=k [.bool (sBy s a)]:=xaa (fun k=>by
 obtain ⟨h1,h2,h3⟩:=xa4 h
 have e1:=xq8 s.Head h1
 have e2:=xv1 a (xa1 s.Head) s.Sigs ha h3 h2
 simp only [Qfb,un,cur0,e1,e2,xag,xau,xap,xaj,xaq,true_and,and_true,sBy]) k
def xcN (s:xaf):Bool:=xcD s.Head&&(decide (s.Head.Epoch=0)&&(decide (s.Head.Kind=1)&&(!s.Head.Frozen&&(decide (s.Head.Zone=xhC s.Head.Keys s.Head.Prev)&&sBy s s.Head.Keys))))
theorem xsU (s:xaf) (h:xar s≤33554432) (k):call Qfc [.agg (xam s)] k=k [.bool (xcN s)]:=xaa (fun k=>by
 obtain ⟨h1,h2,h3⟩:=xa4 h
 obtain ⟨q1,q2,q3⟩:=xdb h1
 have e1:=xsV s.Head h1
 have e2:=xv8 s.Head.Keys s.Head.Prev q1
 have e3:=xcm s s.Head.Keys h q1
 simp only [Qfc,un,cur0,e1,e2,e3,xaI,xec,xbg,xag,xah,xau,xap,xaj,xaq,true_and,and_true]
 exact xb9 fun _=>xb9 fun _=>xb9 fun _=>xb9 fun _=>xb9 fun _=>Iff.rfl) k
theorem xs1 (s:xaf) (h:xar s≤33554432) (k):call Qcj [.agg (xam s)] k=k [.bool (xcN s)]:=xaa (fun k=>by
 obtain ⟨h1,h2,h3⟩:=xa4 h
 obtain ⟨q1,q2,q3⟩:=xdb h1
 have e1:=xs3 s.Head h1
 have e2:=xwu s.Head.Keys s.Head.Prev q1
 have e3:=xpL s.Head h1
 have e4:=xrg s.Head.Keys (xa1 s.Head) s.Sigs q1 h3 h2
 simp only [Qcj,un,cur0,e1,e2,e3,e4,xaI,xec,xbg,xag,xah,xau,xap,xaj,xaq,true_and,and_true]
 exact xb9 fun _=>xb9 fun _=>xb9 fun _=>xb9 fun _=>xb9 fun _=>Iff.rfl) k
theorem xg2 {b:Bool} {v c:Int} {P:Prop} {k:List PV→Prop} (h:b=false→(P↔k [I c])):(if b=true then k [I v] else P)↔k [I (if b=true then v else c)]:=by
 cases b
 ·simpa using h rfl
 ·simp
theorem xhy {b:Bool} {v c:Int} {P:Prop} {k:List PV→Prop} (h:b=true→(P↔k [I c])):(if (!b)=true then k [I v] else P)↔k [I (if b=true then c else v)]:=by
 cases b
 ·simp
 ·simpa using h rfl
def xiC (a b:xa8):Bool:=decide (a.Count=b.Count)&&decide (a.Root=b.Root)
theorem xt7 (a b:xa8) (k):call Qfi [.agg (xbt a),.agg (xbt b)] k=k [.bool (xiC a b)]:=xaa (fun k=>by
 simp only [Qfi,un,cur0,xaI,xec,xah,xau,xap,xaj,xaq,true_and,and_true]
 exact xb9 fun _=>Iff.rfl) k
theorem xuk (a b:xa8) (k):call Qco [.agg (xbt a),.agg (xbt b)] k=k [.bool (xiC a b)]:=xaa (fun k=>by
 simp only [Qco,un,cur0,xaI,xec,xah,xau,xap,xaj,xaq,true_and,and_true]
 exact xb9 fun _=>Iff.rfl) k
def xp3 (p h:xa8):Bool:=decide (h.Zone=p.Zone)&&(decide (h.Epoch=IntKind.i64.wrap (p.Epoch+1))&&(decide (h.Prev=xhH p)&&decide (p.Time≤h.Time)))
theorem xvZ (p h:xa8) (hp:xbB p≤33554432) (k):call Qfe [.agg (xbt p),.agg (xbt h)] k=k [.bool (xp3 p h)]:=xaa (fun k=>by
 have e:=xv0 p hp
 simp only [Qfe,un,cur0,e,xaI,xb8,xbb,xec,xag,xah,xau,xap,xaj,xaq,true_and,and_true]
 exact xb9 fun _=>xb9 fun _=>xb9 fun _=>Iff.rfl) k
def xmJ (p:xa8) (s:xaf):Int:=if p.Frozen=true then 4 else if s.Head.Frozen=true then 6 else if sBy s p.Keys=true then 1 else 7
def xp4 (p:xa8) (s:xaf):Int:=if p.Frozen=true then 4 else if sNo p.Heirs=true then 5 else if decide (s.Head.Time<IntKind.i64.wrap (p.Until+p.Wait))=true then 5 else if s.Head.Frozen=true then 6 else
 if decide (s.Head.Keys=p.Heirs)=true then (if xiC s.Head p=true then (if sBy s p.Heirs=true then 1 else 7) else 6) else 6
def sJC (p:xa8) (s:xaf):Int:=if sNo p.Judge=true then 5 else if decide (s.Head.Frozen=p.Frozen)=true then 6 else
 if (xiC s.Head p&&(decide (s.Head.Judge=p.Judge)&&(decide (s.Head.Heirs=p.Heirs)&&decide (s.Head.Wait=p.Wait))))=true then (if (!s.Head.Frozen||decide (s.Head.Keys=p.Keys))=true then (if sBy s p.Judge=true then 1 else 7) else 6) else 6
def xol (p:xa8) (s:xaf):Int:=if xcD p=true then (if xcD s.Head=true then (if xp3 p s.Head=true then (if decide (s.Head.Kind=1)=true then xmJ p s else if decide (s.Head.Kind=2)=true then xp4 p s else sJC p s) else 3) else 2) else 2
theorem xvY (p:xa8) (s:xaf) (hp:xbB p≤33554432) (hs:xar s≤33554432) (k):call Qff [.agg (xbt p),.agg (xam s)] k=k [I (xmJ p s)]:=xaa (fun k=>by
 obtain ⟨q1,q2,q3⟩:=xdb hp
 have e:=xcm s p.Keys hs q1
 simp only [Qff,un,cur0,e,xbg,xag,xah,xau,xap,xaj,xas,true_and,and_true]
 exact xg2 fun _=>xg2 fun _=>xhy fun _=>Iff.rfl) k
theorem xvX (p:xa8) (s:xaf) (hp:xbB p≤33554432) (hs:xar s≤33554432) (k):call Qfj [.agg (xbt p),.agg (xam s)] k=k [I (xp4 p s)]:=xaa (fun k=>by
 obtain ⟨q1,q2,q3⟩:=xdb hp
 obtain ⟨r1,r2,r3⟩:=xdb (xa4 hs).1
 have e:=xcm s p.Heirs hs q2
 have e2:=xmz s.Head.Keys p.Heirs r1
 simp only [Qfj,un,cur0,e,e2,xn1,xt7,xbg,xbb,xao,xag,xah,xau,xap,xaj,xas,true_and,and_true]
 exact xg2 fun _=>xg2 fun _=>xg2 fun _=>xg2 fun _=>xhy fun _=>xhy fun _=>xhy fun _=>Iff.rfl) k
theorem xvW (p:xa8) (s:xaf) (hp:xbB p≤33554432) (hs:xar s≤33554432) (k):call Qfk [.agg (xbt p),.agg (xam s)] k=k [I (sJC p s)]:=xaa (fun k=>by
 obtain ⟨q1,q2,q3⟩:=xdb hp
 obtain ⟨r1,r2,r3⟩:=xdb (xa4 hs).1
 have e:=xcm s p.Judge hs q3
 have e2:=xmz s.Head.Judge p.Judge r3
 have e3:=xmz s.Head.Heirs p.Heirs r2
 have e4:=xmz s.Head.Keys p.Keys r1
 simp only [Qfk,un,cur0,e,e2,e3,e4,xn1,xt7,xbg,xlt,xaI,xec,xag,xah,xau,xap,xaj,xas,true_and,and_true,sJC]
 generalize sNo p.Judge=b1
 generalize xiC s.Head p=b2
 generalize decide (s.Head.Judge=p.Judge)=b3
 generalize decide (s.Head.Heirs=p.Heirs)=b4
 generalize decide (s.Head.Wait=p.Wait)=b5
 generalize decide (s.Head.Keys=p.Keys)=b6
 generalize sBy s p.Judge=b7
 cases b1<;>cases b2<;>cases b3<;>cases b4<;>cases b5<;>cases b6<;>cases b7<;>cases s.Head.Frozen<;>cases p.Frozen<;>simp) k
theorem xvV (p:xa8) (s:xaf) (hp:xbB p≤33554432) (hs:xar s≤33554432) (k):call Qfl [.agg (xbt p),.agg (xam s)] k=k [I (xol p s)]:=xaa (fun k=>by
 have e1:=xsV p hp
 have e2:=xsV s.Head (xa4 hs).1
 have e3:=xvZ p s.Head hp
 have e4:=xvY p s hp hs
 have e5:=xvX p s hp hs
 have e6:=xvW p s hp hs
 simp only [Qfl,un,cur0,e1,e2,e3,e4,e5,e6,xbg,xaI,xec,xag,xah,xau,xap,xaj,xas,true_and,and_true]
 refine xhy fun _=>xhy fun _=>xhy fun _=>?_
 by_cases h1:s.Head.Kind=1
 ·simp [h1]
 ·by_cases h2:s.Head.Kind=2<;>simp [h1,h2]) k
def xnu (p:xa8) (s:xaf):Bool:=decide (xol p s=1)
theorem xsS (p:xa8) (s:xaf) (hp:xbB p≤33554432) (hs:xar s≤33554432) (k):call Qfm [.agg (xbt p),.agg (xam s)] k=k [.bool (xnu p s)]:=xaa (fun k=>by
 have e:=xvV p s hp hs
 simp only [Qfm,un,cur0,e,xaI,xec,xag,xau,xap,xaj,xaq,true_and,and_true,xnu]) k
theorem xrf (a b:xb1) (h:xbm a≤33554432) (k):call Qcn [.agg (xcS a),.agg (xcS b)] k=k [.bool (decide (a=b))]:=xaa (fun k=>by
 unfold xbm at h
 obtain ⟨l,n⟩:=a
 obtain ⟨m,q⟩:=b
 have e:=xs0 l m (by simp only at h;omega)
 simp only [Qcn,un,cur0,e,xaI,xec,xag,xah,xau,xap,xaj,xaq,true_and,and_true]
 by_cases h1:n=q<;>by_cases h2:l=m<;>simp [h1,h2]) k
theorem xwo (p h:xa8) (k):call Qcl [.agg (xbt p),.agg (xbt h)] k=k [I (if p.Frozen=true then 4 else if h.Frozen=true then 6 else 1)]:=xaa (fun k=>by
 simp only [Qcl,un,cur0,xah,xau,xap,xaj,xas,true_and,and_true]
 exact xg2 fun _=>xg2 fun _=>Iff.rfl) k
def xqg (p h:xa8):Int:=if p.Frozen=true then 4 else if sNo p.Heirs=true then 5 else if decide (h.Time<IntKind.i64.wrap (p.Until+p.Wait))=true then 5 else if h.Frozen=true then 6 else
 if decide (h.Keys=p.Heirs)=true then (if xiC h p=true then 1 else 6) else 6
theorem xwn (p h:xa8) (hp:xbB p≤33554432) (hh:xbB h≤33554432) (k):call Qcp [.agg (xbt p),.agg (xbt h)] k=k [I (xqg p h)]:=xaa (fun k=>by
 obtain ⟨r1,r2,r3⟩:=xdb hh
 have e2:=xrf h.Keys p.Heirs r1
 simp only [Qcp,un,cur0,e2,xs4,xuk,xbg,xbb,xao,xag,xah,xau,xap,xaj,xas,true_and,and_true]
 exact xg2 fun _=>xg2 fun _=>xg2 fun _=>xg2 fun _=>xhy fun _=>xhy fun _=>Iff.rfl) k
def xkL (p h:xa8):Int:=if sNo p.Judge=true then 5 else if decide (h.Frozen=p.Frozen)=true then 6 else
 if (xiC h p&&(decide (h.Judge=p.Judge)&&(decide (h.Heirs=p.Heirs)&&decide (h.Wait=p.Wait))))=true then (if (!h.Frozen||decide (h.Keys=p.Keys))=true then 1 else 6) else 6
theorem xwm (p h:xa8) (hp:xbB p≤33554432) (hh:xbB h≤33554432) (k):call Qcq [.agg (xbt p),.agg (xbt h)] k=k [I (xkL p h)]:=xaa (fun k=>by
 obtain ⟨r1,r2,r3⟩:=xdb hh
 have e2:=xrf h.Judge p.Judge r3
 have e3:=xrf h.Heirs p.Heirs r2
 have e4:=xrf h.Keys p.Keys r1
 have e5:(h.Wait != p.Wait)=!decide (h.Wait=p.Wait):=by rw [bne,xec]
 simp only [Qcq,un,cur0,e2,e3,e4,xs4,xuk,xbg,xlt,xbU,e5,xag,xah,xau,xap,xaj,xas,true_and,and_true,xkL]
 generalize sNo p.Judge=b1
 generalize xiC h p=b2
 generalize decide (h.Judge=p.Judge)=b3
 generalize decide (h.Heirs=p.Heirs)=b4
 generalize decide (h.Wait=p.Wait)=b5
 generalize decide (h.Keys=p.Keys)=b6
 cases b1<;>cases b2<;>cases b3<;>cases b4<;>cases b5<;>cases b6<;>cases h.Frozen<;>cases p.Frozen<;>simp) k
theorem xnP (p:xa8) (s:xaf):xmJ p s=if decide ((if p.Frozen=true then 4 else if s.Head.Frozen=true then 6 else 1:Int)=1)=true then (if sBy s p.Keys=true then 1 else 7) else (if p.Frozen=true then 4 else if s.Head.Frozen=true then 6 else 1):=by
 unfold xmJ
 cases p.Frozen<;>cases s.Head.Frozen<;>simp
theorem xpo (p:xa8) (s:xaf):xp4 p s=if decide (xqg p s.Head=1)=true then (if sBy s p.Heirs=true then 1 else 7) else xqg p s.Head:=by
 unfold xp4 xqg
 cases p.Frozen<;>cases sNo p.Heirs<;>by_cases h1:s.Head.Time<IntKind.i64.wrap (p.Until+p.Wait)<;>cases s.Head.Frozen<;>by_cases h2:s.Head.Keys=p.Heirs<;>cases xiC s.Head p<;>simp [h1,h2]
theorem xnQ (p:xa8) (s:xaf):sJC p s=if decide (xkL p s.Head=1)=true then (if sBy s p.Judge=true then 1 else 7) else xkL p s.Head:=by
 unfold sJC xkL
 generalize (xiC s.Head p&&(decide (s.Head.Judge=p.Judge)&&(decide (s.Head.Heirs=p.Heirs)&&decide (s.Head.Wait=p.Wait))))=b2
 generalize (!s.Head.Frozen||decide (s.Head.Keys=p.Keys))=b3
 generalize decide (s.Head.Frozen=p.Frozen)=b4
 cases sNo p.Judge<;>cases b2<;>cases b3<;>cases b4<;>simp
theorem xo4 {h:xa8} (hh:xcD h=true):h.Kind=1∨h.Kind=2∨h.Kind=3:=by
 unfold xcD at hh
 simp only [Bool.and_eq_true,inR,decide_eq_true_eq] at hh
 omega
theorem xqM {c:Int} {b:Bool} {k:List PV→Prop}:(if decide (c=1)=true then (if (!b)=true then k [I 7] else k [I c]) else k [I c])↔k [I (if decide (c=1)=true then (if b=true then 1 else 7) else c)]:=by
 by_cases h:c=1
 ·subst h;cases b<;>simp
 ·simp [h]
theorem xwl (p:xa8) (s:xaf) (hp:xbB p≤33554432) (hs:xar s≤33554432) (k):call Qcr [.agg (xbt p),.agg (xam s)] k=k [I (xol p s)]:=xaa (fun k=>by
 obtain ⟨h1,h2,h3⟩:=xa4 hs
 obtain ⟨q1,q2,q3⟩:=xdb hp
 have e1:=xs3 p hp
 have e2:=xs3 s.Head h1
 have e3:=xwp p hp
 have e4:=xwo p s.Head
 have e5:=xwn p s.Head hp h1
 have e6:=xwm p s.Head hp h1
 have e7:=xpL s.Head h1
 have e8:=xrg p.Keys (xa1 s.Head) s.Sigs q1 h3 h2
 have e9:=xrg p.Heirs (xa1 s.Head) s.Sigs q2 h3 h2
 have e10:=xrg p.Judge (xa1 s.Head) s.Sigs q3 h3 h2
 simp only [Qcr,un,cur0,e1,e2,e3,e4,e5,e6,e7,e8,e9,e10,xbg,xaI,xbU,xbb,xao,bne,xec,xag,xah,xau,xap,xaj,xas,true_and,and_true,xqM]
 refine xhy fun _=>xhy fun hh=>?_
 have hk:=xo4 hh
 have hc:∀{b1 b2 b3 b4:Bool} {P:Prop} {c:Int},(P↔k [I c])→((if (!b1)=true then k [I 3] else if (!b2)=true then k [I 3] else if (!b3)=true then k [I 3] else if (!b4)=true then k [I 3] else P)↔k [I (if (b1&&(b2&&(b3&&b4)))=true then c else 3)]):=by
  intro b1 b2 b3 b4 P c h
  cases b1<;>cases b2<;>cases b3<;>cases b4<;>simp [h]
 rw [show decide (s.Head.Time<p.Time)=!decide (p.Time≤s.Head.Time) by by_cases h:p.Time≤s.Head.Time<;>simp [h]<;>omega]
 refine hc ?_
 rw [xnP,xpo,xnQ]
 rcases hk with hk | hk | hk<;>simp [hk,sBy]
 all_goals exact Iff.rfl) k
theorem xsZ (p:xa8) (s:xaf) (hp:xbB p≤33554432) (hs:xar s≤33554432) (k):call Qcs [.agg (xbt p),.agg (xam s)] k=k [.bool (xnu p s)]:=xaa (fun k=>by
 have e:=xwl p s hp hs
 simp only [Qcs,un,cur0,e,xaI,xec,xag,xau,xap,xaj,xaq,true_and,and_true,xnu]) k
def xj8 {α:Type} (p:Nat→α→Bool):Nat→List α→Int
 | _,[]=>-1
 | i,x::l=>if p i x=true then (i:Int) else xj8 p (i+1) l
theorem xif {α:Type} (p:Nat→α→Bool) (Q:Int→Prop):∀(i:Nat) (l:List α),xew p (fun i _=>Q i) (Q (-1)) i l=Q (xj8 p i l)
 | _,[]=>rfl
 | i,x::l=>by
  rw [xew,xif p Q (i+1) l,xj8]
  split<;>rfl
theorem xmX {α:Type} {R:(List PV→Prop)→List PV→Prop} {v:List PV} {Q:Int→Prop} (l:List α) (V:Nat→List PV) (p:Nat→α→Bool) (hv:v=V 0)
 (h:∀i x,l[i]? = some x→i<l.length→∀K,R K (V i)↔if p i x=true then Q i else K (V (i+1))) (hf:∀K,R K (V l.length)↔Q (-1)):lp R v↔Q (xj8 p 0 l):=by
 have:=xfE l V p (fun i _=>Q i) hv (fun i x hx=>h i x hx (xaM hx)) hf
 rwa [xif] at this
def xfj (l:List xaf) (i:Nat) (x:xaf):Bool:=if i=0 then !xcN x else match l[i-1]? with | some y=>!xnu y.Head x | none=>true
def sFW (l:List xaf):Int:=xj8 (xfj l) 0 l
theorem xbT {l:List xaf} (h:xan l≤33554432):l.length≤33554432∧∀x∈l,xar x≤33554432:=by
 unfold xan at h
 refine ⟨by omega,fun x hx=>?_⟩
 have:=xaZ (s:=xar) hx
 omega
theorem xvU (l:List xaf) (h:xan l≤33554432) (k):call Qfn [.one (.list 17 (l.map xam))] k=k [I (sFW l)]:=xaa (fun k=>by
 obtain ⟨hl,hx0⟩:=xbT h
 simp only [Qfn,xay,List.length_map,xau,xap,xaj,xas,true_and]
 refine xmX (Q:=fun i=>k [I i]) l (fun i=>[.list 17 (l.map xam),I 0,.list 17 (l.map xam),I l.length,I i]) (xfj l) rfl (fun i x hx hi K=>?_) fun K=>?_
 ·have hm:=hx0 x (xba hx)
  by_cases h0:i=0
  ·subst h0
   have e:=xsU x hm
   simp [-getElem?_pos,Qfn_r0,hx,hi,e,xfj,xbV]
  ·obtain ⟨y,hy⟩:∃y,l[i-1]? = some y:=⟨l[i-1],List.getElem?_eq_getElem (by omega)⟩
   have e:=xsS y.Head x (xa4 (hx0 y (xba hy))).1 hm
   simp [-getElem?_pos,Qfn_r0,hx,hi,hy,h0,e,xfj,show ¬(i:Int)=0 by omega,show 0<i by omega,xdn (show 0<i by omega) (show i<1000000000000000000 by omega),xal (show i<1000000000000000000 by omega)]
 ·simp [Qfn_r0]) k
theorem xwk (l:List xaf) (h:xan l≤33554432) (k):call Qct [.one (.list 17 (l.map xam))] k=k [I (sFW l)]:=xaa (fun k=>by
 obtain ⟨hl,hx0⟩:=xbT h
 simp only [Qct,xay,List.length_map,xau,xap,xaj,xas,true_and]
 refine xmX (Q:=fun i=>k [I i]) l (fun i=>[.list 17 (l.map xam),I 0,I i]) (xfj l) rfl (fun i x hx hi K=>?_) fun K=>?_
 ·have hm:=hx0 x (xba hx)
  by_cases h0:i=0
  ·subst h0
   have e:=xs1 x hm
   simp [-getElem?_pos,Qct_r0,hx,hi,e,xfj,xbV]
  ·obtain ⟨y,hy⟩:∃y,l[i-1]? = some y:=⟨l[i-1],List.getElem?_eq_getElem (by omega)⟩
   have e:=xsZ y.Head x (xa4 (hx0 y (xba hy))).1 hm
   simp [-getElem?_pos,Qct_r0,hx,hi,hy,h0,e,xfj,show ¬(i:Int)=0 by omega,show 0<i by omega,xdn (show 0<i by omega) (show i<1000000000000000000 by omega),xal (show i<1000000000000000000 by omega)]
 ·simp [Qct_r0]) k
def xaO (l:List xaf):Bool:=inR l.length 1 12&&decide (sFW l<0)
theorem xn0 (l:List xaf) (h:xan l≤33554432) (k):call Qfo [.one (.list 17 (l.map xam))] k=k [.bool (xaO l)]:=xaa (fun k=>by
 have e:=xvU l h
 simp only [Qfo,xay,List.length_map,xdC,e,xao,xag,xah,xau,xap,xaj,xaq,true_and,and_true]
 exact xb9 fun _=>Iff.rfl) k
theorem xre (l:List xaf) (h:xan l≤33554432) (k):call Qcu [.one (.list 17 (l.map xam))] k=k [.bool (xaO l)]:=xaa (fun k=>by
 have e:=xwk l h
 simp only [Qcu,xay,List.length_map,xey,e,xao,xag,xah,xau,xap,xaj,xaq,true_and,and_true]
 exact xb9 fun _=>Iff.rfl) k
theorem xeS {l:List xaf} (h:xaO l=true):∃p,l[l.length-1]? = some p∧0<l.length:=by
 unfold xaO inR at h
 simp only [Bool.and_eq_true,decide_eq_true_eq] at h
 exact ⟨l[l.length-1],List.getElem?_eq_getElem (by omega),by omega⟩
def xdY:xa8:=⟨0,0,0,0,0,0,0,0,⟨[],0⟩,⟨[],0⟩,0,⟨[],0⟩,false⟩
def xdr (l:List xaf):Option xa8:=if xaO l=true then (l[l.length-1]?).map (·.Head) else none
def xd6:Option xa8→List PV
 | some h=>xbt h++[.bool true]
 | none=>xbt xdY++[.bool false]
theorem xrd (l:List xaf) (h:xan l≤33554432) (k):call Qcv [.one (.list 17 (l.map xam))] k=k (xd6 (xdr l)):=xaa (fun k=>by
 obtain ⟨hl,hx0⟩:=xbT h
 have e:=xre l h
 unfold xdr
 cases hc:xaO l with
 | false=>simp [Qcv,e,hc,xd6,xdY,ints]
 | true =>
  obtain ⟨p,hp,h0⟩:=xeS hc
  have e3:=xul p.Head (xa4 (hx0 p (xba hp))).1
  simp [-getElem?_pos,Qcv,e,hc,e3,xd6,hp,xdn h0 (show l.length<1000000000000000000 by omega)]) k
def azB (x:UInt8):Bool:=(decide (97≤(x.toNat:Int))&&decide ((x.toNat:Int)≤122))||(decide (48≤(x.toNat:Int))&&decide ((x.toNat:Int)≤57))
def xd9 (x:UInt8):Bool:=decide ((x.toNat:Int)=45)
def xpv (n:Nat) (i:Nat) (x:UInt8):Bool:=!(azB x||(xd9 x&&(decide (0<i)&&decide (i+1<n))))
def xcs (s:ByteArray):Bool:=!xeV (xpv s.data.toList.length) 0 s.data.toList&&inR s.size 1 8
theorem size_data (s:ByteArray):s.size=s.data.toList.length:=rfl
theorem xpJ (s:ByteArray) (h:s.size≤33554432) (k):call Qfq [.one (.str s)] k=k [.bool (xcs s)]:=xaa (fun k=>by
 simp only [Qfq,xdy,xau,xap,xaj,xaq,true_and,xdC,xag]
 refine (xgz (P:=k [.bool false]) (fin:=k [.bool (inR s.size 1 8)]) s.data.toList (fun i=>[.str s,.bool false,I s.size,I i]) (xpv s.data.toList.length) rfl (fun i x hx hi K=>?_) fun K=>?_).trans ?_
 ·have hw:=xal (show i<1000000000000000000 by rw [size_data] at h;omega)
  have hl:IntKind.i64.wrap ((s.size:Int)-1)=(s.size:Int)-1:=xbV (by omega) (by omega)
  have hs:=size_data s
  simp only [Qfq_r0,un,cur0,xao,xfb,xb8,xbp,xaI,xbb,xbu,xdy,xkh,Int.toNat_natCast,hx,oP,xah,xbg,xec,hw,hl,show decide ((i:Int)<s.size)=true by rw [hs];simp;omega,if_true,show (0:Int)≤i by omega,true_and]
  unfold xpv azB xd9
  have d1:decide ((i:Int)<(s.size:Int)-1)=decide (i+1<s.data.toList.length):=by apply decide_eq_decide.2;rw [hs];omega
  have d2:decide ((0:Int)<(i:Int))=decide (0<i):=by apply decide_eq_decide.2;omega
  rw [d1,d2]
  generalize decide (97≤(x.toNat:Int))=b1
  generalize decide ((x.toNat:Int)≤122)=b2
  generalize decide (48≤(x.toNat:Int))=b3
  generalize decide ((x.toNat:Int)≤57)=b4
  generalize decide ((x.toNat:Int)=45)=b5
  generalize decide (0<i)=b6
  generalize decide (i+1<s.data.toList.length)=b7
  cases b1<;>cases b2<;>cases b3<;>cases b4<;>cases b5<;>cases b6<;>cases b7<;>simp
 ·simp only [Qfq_r0,un,cur0,xao,xah,show decide (((s.data.toList.length:Nat):Int)<s.size)=false by rw [size_data];simp,xdy,xdC,xag]
  simp
 ·unfold xcs
  cases xeV (xpv s.data.toList.length) 0 s.data.toList<;>simp) k
theorem xqo (L:List UInt8) (x y:UInt8) (hx:L[0]? = some x) (hy:L[L.length-1]? = some y):xeV (xpv L.length) 0 L=(xd9 x||(xd9 y||L.any fun b=>!(azB b||xd9 b))):=by
 rw [Bool.eq_iff_iff]
 constructor
 ·intro h
  rcases hd:(xd9 x||(xd9 y||L.any fun b=>!(azB b||xd9 b))) with _ | _
  ·exfalso
   simp only [Bool.or_eq_false_iff] at hd
   obtain ⟨d1,d2,d3⟩:=hd
   have hn:xeV (xpv L.length) 0 L=false:=by
    rw [xfc]
    intro j b hb
    have hj:=xaM hb
    have h3:=List.any_eq_false.1 d3 b (List.mem_of_getElem? hb)
    unfold xpv
    by_cases ha:azB b=true
    ·simp [ha]
    ·have hdb:xd9 b=true:=by cases h:xd9 b<;>simp [ha,h] at h3 ⊢
     have j0:j≠0:=by rintro rfl;rw [hx] at hb;injection hb with hb;subst hb;rw [d1] at hdb;cases hdb
     have j1:j≠L.length-1:=by rintro rfl;rw [hy] at hb;injection hb with hb;subst hb;rw [d2] at hdb;cases hdb
     simp [hdb,show 0<j by omega,show j+1<L.length by omega]
   rw [hn] at h;cases h
  ·rfl
 ·intro h
  cases hn:xeV (xpv L.length) 0 L with
  | true=>rfl
  | false =>
   exfalso
   rw [xfc] at hn
   have hl:=xaM hy
   have az_dash:∀b,xd9 b=true→azB b=false:=by
    intro b hb
    unfold xd9 at hb
    unfold azB
    simp only [decide_eq_true_eq] at hb
    simp [hb]
   simp only [Bool.or_eq_true] at h
   rcases h with h | h | h
   ·have:=hn 0 x hx
    simp [xpv,h,az_dash x h] at this
   ·have:=hn _ y hy
    simp [xpv,h,az_dash y h] at this
    omega
   ·obtain ⟨b,hb,h2⟩:=List.any_eq_true.1 h
    obtain ⟨j,hj⟩:=List.mem_iff_getElem?.1 hb
    have:=hn j b hj
    unfold xpv at this
    simp only [Bool.not_eq_true',Bool.or_eq_false_iff] at h2
    simp [h2.1,h2.2] at this
theorem xpK (s:ByteArray) (h:s.size≤33554432) (k):call Qcw [.one (.str s)] k=k [.bool (xcs s)]:=xaa (fun k=>by
 have hs:=size_data s
 unfold xcs
 cases hr:inR s.size 1 8 with
 | false=>simp [Qcw,xey,hr]
 | true =>
  have h1:1≤s.size:=by unfold inR at hr;simp at hr;omega
  obtain ⟨x,hx⟩:∃x,s.data.toList[0]? = some x:=⟨s.data.toList[0]'(by omega),List.getElem?_eq_getElem (by omega)⟩
  obtain ⟨y,hy⟩:∃y,s.data.toList[s.data.toList.length-1]? = some y:=⟨_,List.getElem?_eq_getElem (by omega)⟩
  have hl:IntKind.i64.wrap ((s.size:Int)-1)=((s.size-1:Nat):Int):=by rw [xbV (by omega) (by omega)];omega
  have hy':s.data.toList[s.size-1]? = some y:=hy
  rw [xqo _ x y hx hy]
  simp only [Qcw,xdy,xey,hr,xbg,xag,xah,xbu,hl,xaI,xec,xkh,Int.toNat_natCast,show ((0:Int)).toNat=0 from rfl,hx,hy',oP,xau,xap,xaj,xaq,true_and,Bool.not_true,Bool.false_eq_true,if_false,show (0:Int)≤0 by omega,show (0:Int)≤((s.size-1:Nat):Int) by omega]
  rw [show decide ((x.toNat:Int)=45)=xd9 x from rfl,show decide ((y.toNat:Int)=45)=xd9 y from rfl]
  have key:lp (fun L w=>Qcw_r0 w L (k [PV.bool false]) fun q29 q30 q31=>k [PV.bool true]) [PV.str s,PV.bool false,I 0]↔k [.bool (!(s.data.toList.any fun b=>!(azB b||xd9 b)))]:=by
   refine (xoO (P:=k [.bool false]) (fin:=k [.bool true]) s.data.toList (fun i=>[.str s,.bool false,I i]) (fun b=>!(azB b||xd9 b)) rfl (fun i x hx hi K=>?_) fun K=>?_).trans ?_
   ·have hw:=xal (show i<1000000000000000000 by omega)
    simp only [Qcw_r0,un,cur0,xao,xfb,xb8,xbp,xaI,xbU,xbb,xdy,xkh,Int.toNat_natCast,hx,oP,xah,xbg,bne,xec,hw,show decide ((i:Int)<s.size)=true by rw [hs];simp;omega,if_true,show (0:Int)≤i by omega,true_and]
    unfold azB xd9
    rw [show decide ((x.toNat:Int)<97)=!decide (97≤(x.toNat:Int)) by by_cases h:97≤(x.toNat:Int)<;>simp [h]<;>omega,
     show decide ((x.toNat:Int)<48)=!decide (48≤(x.toNat:Int)) by by_cases h:48≤(x.toNat:Int)<;>simp [h]<;>omega,
     show decide (122<(x.toNat:Int))=!decide ((x.toNat:Int)≤122) by by_cases h:(x.toNat:Int)≤122<;>simp [h]<;>omega,
     show decide (57<(x.toNat:Int))=!decide ((x.toNat:Int)≤57) by by_cases h:(x.toNat:Int)≤57<;>simp [h]<;>omega]
    generalize decide (97≤(x.toNat:Int))=b1
    generalize decide ((x.toNat:Int)≤122)=b2
    generalize decide (48≤(x.toNat:Int))=b3
    generalize decide ((x.toNat:Int)≤57)=b4
    generalize decide ((x.toNat:Int)=45)=b5
    cases b1<;>cases b2<;>cases b3<;>cases b4<;>cases b5<;>simp
   ·simp only [Qcw_r0,un,cur0,xao,xdy,xah,show decide (((s.data.toList.length:Nat):Int)<s.size)=false by rw [size_data];simp]
    simp
   ·cases (s.data.toList.any fun b=>!(azB b||xd9 b))<;>simp
  rw [propext key]
  cases xd9 x<;>cases xd9 y<;>simp) k
def xjM (p:List ByteArray):Bool:=inR p.length 1 4&&!(p.any fun s=>!xcs s)
theorem xjO {p:List ByteArray} (h:p.length+xbd ByteArray.size p≤33554432):p.length≤33554432∧∀s∈p,s.size≤33554432:=by
 refine ⟨by omega,fun s hs=>?_⟩
 have:=xaZ (s:=ByteArray.size) hs
 omega
theorem xvT (p:List ByteArray) (h:p.length+xbd ByteArray.size p≤33554432) (k):call Qfu [.one (strs p)] k=k [.bool (xjM p)]:=xaa (fun k=>by
 obtain ⟨hl,hs⟩:=xjO h
 have e:∀k,call Qfs [.one (strs p),.fn 282 []] k=k [I (idx (fun s=>!xcs s) p)]:=xaa (fun k=>by
  simp [Qfs]
  refine xek (Q:=fun i=>k [I i]) p (fun i=>[strs p,I 0,I p.length,I i]) (fun s=>!xcs s) rfl (fun i x hx hi K=>?_) fun K=>?_
  ·have e1:∀k,call Qfr [.one (.str x)] k=k [.bool (!xcs x)]:=xaa (fun k=>by simp [Qfr,xpJ x (hs x (xba hx))])
   simp [-getElem?_pos,Qfs_r0,hx,hi,e1,xal (show i<1000000000000000000 by omega)]
  ·simp [Qfs_r0])
 have e2:∀k,call Qft [.one (strs p),.fn 282 []] k=k [.bool (p.any fun s=>!xcs s)]:=xaa (fun k=>by simp [Qft,e,xmc])
 simp only [Qfu,xay,List.length_map,xdC,e2,xbg,xag,xah,xau,xap,xaj,xaq,true_and]
 exact xb9 fun _=>Iff.rfl) k
theorem xwj (p:List ByteArray) (h:p.length+xbd ByteArray.size p≤33554432) (k):call Qcx [.one (strs p)] k=k [.bool (xjM p)]:=xaa (fun k=>by
 obtain ⟨hl,hs⟩:=xjO h
 simp only [Qcx,xau,xap,xaj,xaq,true_and,xay,List.length_map,xey,xag]
 refine (xoO (P:=k [.bool false]) (fin:=k [.bool (inR p.length 1 4)]) p (fun i=>[strs p,.bool false,I i]) (fun s=>!xcs s) rfl (fun i x hx hi K=>?_) fun K=>?_).trans ?_
 ·have e:=xpK x (hs x (xba hx))
  simp [-getElem?_pos,Qcx_r0,hx,hi,e,xal (show i<1000000000000000000 by omega)]
 ·simp [Qcx_r0,xey]
 ·unfold xjM
  cases (p.any fun s=>!xcs s)<;>simp) k
def xcz (e:xav):Bool:=xcs e.Label&&(if decide (e.Kind=1)=true then inR e.Value 0 999999&&decide (e.Path.length=0) else if decide (e.Kind=2)=true then inR e.Value 0 2147483646&&decide (e.Path.length=0) else if decide (e.Kind=3)=true then inR e.Value 0 2147483646&&xjM e.Path else false)
theorem xhl {e:xav} (h:xaz e≤33554432):e.Label.size≤33554432∧e.Path.length+xbd ByteArray.size e.Path≤33554432:=by unfold xaz at h;omega
theorem len0 (n:Nat):((n:Int)==0)=decide (n=0):=by rw [xec];apply decide_eq_decide.2;omega
theorem xwb (x:Int) (k):call Qec [.one (I x)] k=k [.bool (inR x 0 2147483646)]:=xaa (fun k=>by simp [Qec,xdC]) k
theorem xt6 (e:xav) (h:xaz e≤33554432) (k):call Qfv [.agg (xaF e)] k=k [.bool (xcz e)]:=xaa (fun k=>by
 obtain ⟨h1,h2⟩:=xhl h
 have e1:=xpJ e.Label h1
 have e2:=xvT e.Path h2
 simp only [Qfv,un,cur0,e1,e2,xdC,xwb,xay,List.length_map,xaI,len0,xec,xbg,xag,xah,xau,xap,xaj,xaq,true_and,xcz]
 refine xhx fun _=>?_
 cases decide (e.Kind=1)<;>cases decide (e.Kind=2)<;>cases decide (e.Kind=3)<;>cases inR e.Value 0 999999<;>cases inR e.Value 0 2147483646<;>simp) k
theorem xuj (e:xav) (h:xaz e≤33554432) (k):call Qcy [.agg (xaF e)] k=k [.bool (xcz e)]:=xaa (fun k=>by
 obtain ⟨h1,h2⟩:=xhl h
 have e1:=xpK e.Label h1
 have e2:=xwj e.Path h2
 simp only [Qcy,un,cur0,e1,e2,xey,xay,List.length_map,xaI,len0,xec,xbg,xag,xah,xau,xap,xaj,xaq,true_and,xcz]
 cases xcs e.Label<;>cases decide (e.Kind=1)<;>cases decide (e.Kind=2)<;>cases decide (e.Kind=3)<;>cases inR e.Value 0 999999<;>cases inR e.Value 0 2147483646<;>simp) k
theorem xmq:∀(a b:List UInt8),Go.Lib.compareBytes b a=-Go.Lib.compareBytes a b
 | [],[]=>rfl
 | [],_::_=>rfl
 | _::_,[]=>rfl
 | x::a,y::b=>by
  have ih:=xmq a b
  unfold Go.Lib.compareBytes
  by_cases h1:x<y
  ·have:¬y<x:=by intro h;exact absurd (UInt8.lt_trans h1 h) (UInt8.lt_irrefl x)
   simp [h1,this]
  ·by_cases h2:y<x
   ·simp [h1,h2]
   ·simp [h1,h2,ih]
theorem xea:∀(a b:List UInt8),Go.Lib.compareBytes a b=-1∨Go.Lib.compareBytes a b=0∨Go.Lib.compareBytes a b=1
 | [],[]=>.inr (.inl rfl)
 | [],_::_=>.inl rfl
 | _::_,[]=>.inr (.inr rfl)
 | x::a,y::b=>by
  unfold Go.Lib.compareBytes
  split
  ·exact .inl rfl
  ·split
   ·exact .inr (.inr rfl)
   ·exact xea a b
theorem xne:∀(a b:List UInt8),Op.bytesLess a b=decide (Go.Lib.compareBytes a b=-1)
 | [],[]=>by simp [Op.bytesLess,Go.Lib.compareBytes]
 | [],_::_=>by simp [Op.bytesLess,Go.Lib.compareBytes]
 | _::_,[]=>by simp [Op.bytesLess,Go.Lib.compareBytes]
 | x::a,y::b=>by
  have ih:=xne a b
  unfold Op.bytesLess Go.Lib.compareBytes
  by_cases h1:x<y
  ·simp [h1]
  ·by_cases h2:y<x
   ·have:¬x=y:=by rintro rfl;exact UInt8.lt_irrefl _ h2
    simp [h1,h2,this]
   ·have:x=y:=by
     apply UInt8.toNat_inj.1
     rw [UInt8.lt_iff_toNat_lt] at h1 h2
     omega
    simp [h1,h2,this,ih]
theorem xpp:∀(a b:List UInt8),(a==b)=decide (Go.Lib.compareBytes a b=0)
 | [],[]=>by simp [Go.Lib.compareBytes]
 | [],_::_=>by simp [Go.Lib.compareBytes]
 | _::_,[]=>by simp [Go.Lib.compareBytes]
 | x::a,y::b=>by
  have ih:=xpp a b
  unfold Go.Lib.compareBytes
  rw [List.cons_beq_cons]
  by_cases h1:x<y
  ·have:¬x=y:=by rintro rfl;exact UInt8.lt_irrefl _ h1
   simp [h1,this]
  ·by_cases h2:y<x
   ·have:¬x=y:=by rintro rfl;exact UInt8.lt_irrefl _ h2
    simp [h1,h2,this]
   ·have:x=y:=by
     apply UInt8.toNat_inj.1
     rw [UInt8.lt_iff_toNat_lt] at h1 h2
     omega
    simp [h1,h2,this,ih]
def xeQ (s t:ByteArray):Int:=Go.Lib.compareBytes s.data.toList t.data.toList
theorem xq7 (s t:ByteArray) (k):call Qfy [.one (.str s),.one (.str t)] k=k [I (xeQ s t)]:=xaa (fun k=>by
 have e:∀k,call Qkw [.one (.str s),.one (.str t)] k=k [I (xeQ s t)]:=xaa (fun k=>by simp [Qkw,xeQ])
 have e2:∀k,call Qfx [.one (.str s),.one (.str t)] k=k [I (xeQ s t)]:=xaa (fun k=>by simp [Qfx,e])
 simp [Qfy,e2]) k
theorem xrc (s t:ByteArray) (k):call Qcz [.one (.str s),.one (.str t)] k=k [I (xeQ s t)]:=xaa (fun k=>by
 simp only [Qcz,xac,xfv,xne,xpp,xah,xau,xap,xaj,xas,true_and]
 unfold xeQ
 rcases xea s.data.toList t.data.toList with h | h | h<;>simp [h]) k
def xqQ (l:List xav) (i:Nat) (x:xav):Bool:=!xcz x||(decide (0<i)&&(match l[i-1]? with | some y=>decide (xeQ x.Label y.Label≤0) | none=>false))
def xce (l:List xav):Bool:=!xeV (xqQ l) 0 l&&decide ((l.length:Int)≤12)
theorem xt5 (l:List xav) (h:xbh l≤33554432) (k):call Qfz [.one (.list 4 (l.map xaF))] k=k [.bool (xce l)]:=xaa (fun k=>by
 obtain ⟨hl,hx0⟩:=xa2 h
 simp only [Qfz,xay,List.length_map,xau,xap,xaj,xaq,true_and,xfb]
 refine (xgz (P:=k [.bool false]) (fin:=k [.bool (decide ((l.length:Int)≤12))]) l (fun i=>[.list 4 (l.map xaF),.bool false,.list 4 (l.map xaF),I l.length,I i]) (xqQ l) rfl (fun i x hx hi K=>?_) fun K=>?_).trans ?_
 ·have e:=xt6 x (hx0 x (xba hx))
  by_cases h0:i=0
  ·subst h0
   simp [-getElem?_pos,Qfz_r0,hx,hi,e,xqQ,xbV]
  ·obtain ⟨y,hy⟩:∃y,l[i-1]? = some y:=⟨l[i-1],List.getElem?_eq_getElem (by omega)⟩
   have c:=xmq x.Label.data.toList y.Label.data.toList
   have r:=xea x.Label.data.toList y.Label.data.toList
   have e2:=xq7 x.Label y.Label
   simp [-getElem?_pos,Qfz_r0,hx,hi,hy,h0,e,e2,xqQ,show 0<i by omega,xdn (show 0<i by omega) (show i<1000000000000000000 by omega),xal (show i<1000000000000000000 by omega)]
   cases xcz x<;>by_cases h2:xeQ x.Label y.Label≤0<;>simp [h2]
 ·simp [Qfz_r0]
 ·unfold xce
  cases xeV (xqQ l) 0 l<;>simp) k
theorem xui (l:List xav) (h:xbh l≤33554432) (k):call Qda [.one (.list 4 (l.map xaF))] k=k [.bool (xce l)]:=xaa (fun k=>by
 obtain ⟨hl,hx0⟩:=xa2 h
 simp only [Qda,xay,List.length_map,xau,xap,xaj,xaq,true_and,xfb]
 refine (xgz (P:=k [.bool false]) (fin:=k [.bool (decide ((l.length:Int)≤12))]) l (fun i=>[.list 4 (l.map xaF),.bool false,I i]) (xqQ l) rfl (fun i x hx hi K=>?_) fun K=>?_).trans ?_
 ·have e:=xuj x (hx0 x (xba hx))
  by_cases h0:i=0
  ·subst h0
   simp [-getElem?_pos,Qda_r0,hx,hi,e,xqQ,xbV]
  ·obtain ⟨y,hy⟩:∃y,l[i-1]? = some y:=⟨l[i-1],List.getElem?_eq_getElem (by omega)⟩
   have c:=xmq x.Label.data.toList y.Label.data.toList
   have r:=xea x.Label.data.toList y.Label.data.toList
   have e2:=xrc y.Label x.Label
   simp [-getElem?_pos,Qda_r0,hx,hi,hy,h0,e,e2,xqQ,show 0<i by omega,xdn (show 0<i by omega) (show i<1000000000000000000 by omega),xal (show i<1000000000000000000 by omega)]
   have c2:xeQ y.Label x.Label=-xeQ x.Label y.Label:=c
   have r2:xeQ x.Label y.Label=-1∨xeQ x.Label y.Label=0∨xeQ x.Label y.Label=1:=r
   rw [c2]
   cases xcz x<;>rcases r2 with r2 | r2 | r2<;>simp [r2]
 ·simp [Qda_r0]
 ·unfold xce
  cases xeV (xqQ l) 0 l<;>simp) k
def xbS (p:List ByteArray):List Int:=p.flatMap xbr
def xbz (e:xav):List Int:=xbr e.Label++([e.Kind,e.Value,(e.Path.length:Int)]++xbS e.Path)
theorem xdF:∀(p:List ByteArray),(xbS p).length=p.length+xbd ByteArray.size p
 | []=>rfl
 | s::p=>by
  have:=xdF p
  unfold xbS at this ⊢
  simp only [List.flatMap_cons,List.length_append,List.length_cons,xbH,xbd,this]
  omega
theorem xf9 (e:xav):(xbz e).length=xaz e+4:=by
 simp only [xbz,List.length_append,xbH,xdF,List.length_cons,List.length_nil,xaz]
 omega
theorem xvR (e:xav) (h:xaz e≤33554432) (k):call Qgc [.agg (xaF e)] k=k [ints (xbz e)]:=xaa (fun k=>by
 obtain ⟨h1,h2⟩:=xhl h
 obtain ⟨hl,hs⟩:=xjO h2
 have e1:=xsQ e.Label (show e.Label.size<1000000000 by omega)
 have e2:=xbH e.Label
 simp only [Qgc,un,cur0,e1,xay,List.length_map,xag,xbM,true_and,show (3:Nat)≤16777216 by omega,ints,xbA,e2,List.length_cons,List.length_nil,show e.Label.size+1+(0+1+1+1)<1073741824 by omega,xau,xdq,xaj]
 refine xbD e.Path (fun i=>[strs e.Path,I e.Path.length,I i,.list 1 [],ints (xbr e.Label++([e.Kind,e.Value,(e.Path.length:Int)]++xbS (e.Path.take i)))]) (by simp [ints,xbS]) (fun i x hx hi K=>?_) fun K=>?_
 ·have e3:=xsQ x (show x.size<1000000000 by have:=hs x (xba hx);omega)
  have e4:xbS (e.Path.take (i+1))=xbS (e.Path.take i)++xbr x:=by
   unfold xbS;rw [xaY hx,List.flatMap_append];simp
  have e5:(xbS (e.Path.take i)).length≤67108864:=by
   rw [xdF]
   have:=xcH ByteArray.size e.Path i
   have:(e.Path.take i).length≤e.Path.length:=by simp;omega
   omega
  have e6:=xbH x
  have e7:=hs x (xba hx)
  rw [e4]
  generalize xbS (e.Path.take i)=A at e5
  simp [-getElem?_pos,Qgc_r0,hx,hi,e3,ints,xbA,e2,e6,xal (show i<1000000000000000000 by omega)]
  try (intros;omega)
 ·simp [Qgc_r0,xbz,ints]) k
theorem xt4 (e:xav) (h:xaz e≤33554432) (k):call Qgd [.agg (xaF e)] k=k [I (xds (227::xbz e))]:=xaa (fun k=>by
 have hl:=xf9 e
 have e1:=xvR e h
 have e2:=xlH (227::xbz e) (by simp;omega)
 have e3:PV.list 1 ([I 227]::(xbz e).map rI)=ints (227::xbz e):=by simp [ints]
 simp [Qgd,xbM,e1,xbA,show 1+(xbz e).length<1073741824 by omega]
 rw [e3,e2]
 simp
 try (intros;omega)) k
theorem xwh (e:xav) (h:xaz e≤33554432) (k):call Qdd [.agg (xaF e)] k=k [ints (xbz e)]:=xaa (fun k=>by
 obtain ⟨h1,h2⟩:=xhl h
 obtain ⟨hl,hs⟩:=xjO h2
 have e1:=xsY e.Label (show e.Label.size<1000000000 by omega)
 have e2:=xbH e.Label
 simp only [Qdd,un,cur0,e1,xay,List.length_map,xag,xbM,true_and,show (3:Nat)≤16777216 by omega,ints,xbA,e2,List.length_cons,List.length_nil,show e.Label.size+1+(0+1+1+1)<1073741824 by omega,xau,xdq,xaj]
 refine xbD e.Path (fun i=>[I i,.str e.Label,I e.Kind,I e.Value,strs e.Path,.list 1 [],ints (xbr e.Label++([e.Kind,e.Value,(e.Path.length:Int)]++xbS (e.Path.take i)))]) (by simp [ints,xbS]) (fun i x hx hi K=>?_) fun K=>?_
 ·have e3:=xsY x (show x.size<1000000000 by have:=hs x (xba hx);omega)
  have e4:xbS (e.Path.take (i+1))=xbS (e.Path.take i)++xbr x:=by
   unfold xbS;rw [xaY hx,List.flatMap_append];simp
  have e5:(xbS (e.Path.take i)).length≤67108864:=by
   rw [xdF]
   have:=xcH ByteArray.size e.Path i
   have:(e.Path.take i).length≤e.Path.length:=by simp;omega
   omega
  have e6:=xbH x
  have e7:=hs x (xba hx)
  rw [e4]
  generalize xbS (e.Path.take i)=A at e5
  simp [-getElem?_pos,Qdd_r0,hx,hi,e3,ints,xbA,e2,e6,xal (show i<1000000000000000000 by omega)]
  try (intros;omega)
 ·simp [Qdd_r0,xbz,ints]) k
theorem xuh (e:xav) (h:xaz e≤33554432) (k):call Qde [.agg (xaF e)] k=k [I (xds (227::xbz e))]:=xaa (fun k=>by
 have hl:=xf9 e
 have e1:=xwh e h
 have e2:=xlJ (227::xbz e) (by simp;omega)
 have e3:PV.list 1 ([I 227]::(xbz e).map rI)=ints (227::xbz e):=by simp [ints]
 simp [Qde,xbM,e1,xbA,show 1+(xbz e).length<1073741824 by omega]
 rw [e3,e2]
 simp
 try (intros;omega)) k
def xd2 (e:xav):Int:=xds (227::xbz e)
theorem xt3 (l:List xav) (h:xbh l≤33554432) (k):call Qge [.one (.list 4 (l.map xaF))] k=k [ints (l.map xd2)]:=xaa (fun k=>by
 obtain ⟨hl,hx0⟩:=xa2 h
 simp only [Qge,xay,List.length_map,xau,xdq,xaj,true_and,show (0:Nat)≤16777216 by omega]
 refine xbD l (fun i=>[.list 4 (l.map xaF),I l.length,I i,.list 1 [],ints ((l.take i).map xd2)]) (by simp [ints]) (fun i x hx hi K=>?_) fun K=>?_
 ·have e:=xt4 x (hx0 x (xba hx))
  simp [-getElem?_pos,Qge_r0,hx,hi,e,xbM,ints,xbA,xaY hx,show i<1073741823 by omega,show min i l.length<1073741823 by omega,xd2,xal (show i<1000000000000000000 by omega)]
  try (intros;omega)
 ·simp [Qge_r0]) k
theorem xug (l:List xav) (h:xbh l≤33554432) (k):call Qdf [.one (.list 4 (l.map xaF))] k=k [ints (l.map xd2)]:=xaa (fun k=>by
 obtain ⟨hl,hx0⟩:=xa2 h
 simp only [Qdf,xay,List.length_map,xau,xdq,xaj,true_and,show (0:Nat)≤16777216 by omega]
 refine xbD l (fun i=>[.list 4 (l.map xaF),I i,.list 1 [],ints ((l.take i).map xd2)]) (by simp [ints]) (fun i x hx hi K=>?_) fun K=>?_
 ·have e:=xuh x (hx0 x (xba hx))
  simp [-getElem?_pos,Qdf_r0,hx,hi,e,xbM,ints,xbA,xaY hx,show i<1073741823 by omega,show min i l.length<1073741823 by omega,xd2,xal (show i<1000000000000000000 by omega)]
  try (intros;omega)
 ·simp [Qdf_r0]) k
def xhF (a b:Int):Int:=xds [229,a,b]
def xbi:List Int→List Int
 | a::b::l=>xhF a b::xbi l
 | [a]=>[a]
 | []=>[]
theorem xd3:∀(n:Nat) (m r:List Int),m.length=2*n→xbi (m++r)=xbi m++xbi r
 | 0,[],r,_=>rfl
 | 0,_::_,r,h=>by simp at h
 | n+1,[],r,h=>by simp at h
 | n+1,[a],r,h=>by simp at h;omega
 | n+1,a::b::m,r,h=>by
  have:=xd3 n m r (by simp at h;omega)
  simp [xbi,this]
theorem xcI:∀(l:List Int),(xbi l).length≤l.length∧(2≤l.length→(xbi l).length<l.length)∧(1≤l.length→1≤(xbi l).length)
 | []=>by simp [xbi]
 | [a]=>by simp [xbi]
 | a::b::l=>by
  have:=xcI l
  simp only [xbi,List.length_cons]
  omega
def xnt:Nat→List Int→Int
 | 0,_=>0
 | n+1,l=>if 1<l.length then xnt n (xbi l) else l.headD 0
def xtm (l:List Int):Int:=if l.length=0 then xds [229] else xnt (l.length+1) l
def xiD (l:List xav):Int:=xds [231,(l.length:Int),xtm (l.map xd2)]
theorem xt2 (a b:Int) (k):call Qgg [.one (I a),.one (I b)] k=k [I (xhF a b)]:=xaa (fun k=>by
 have eh:∀(l:List Int),l.length<1000→∀k,call Qgf [.one (ints l)] k=k [I (xds l)]:=fun l hl=>xaa (fun k=>by simp [Qgf,xlH l (by omega)])
 have e:=eh [229,a,b] (by simp)
 rw [show ints [229,a,b]=PV.list 1 [[I 229],[I a],[I b]] from rfl] at e
 simp [Qgg,xbM,e,xhF]) k
theorem xt1 (l:List Int) (h:l.length≤33554432) (k):call Qgh [.one (ints l)] k=k [ints (xbi l)]:=xaa (fun k=>by
 simp only [Qgh,xau,xdq,xaj,true_and,show (0:Nat)≤16777216 by omega]
 refine xmW ((l.length+1) / 2) (fun j=>[ints l,I ((2*j:Nat):Int),.list 1 [],ints (xbi (l.take (2*j)))]) (by simp [ints,xbi]) (fun j hj K=>?_) fun K=>?_
 ·have hlt:2*j<l.length:=by omega
  obtain ⟨x,hx⟩:∃x,l[2*j]? = some x:=⟨l[2*j],List.getElem?_eq_getElem hlt⟩
  have t1:l.take (2*j+1)=l.take (2*j)++[x]:=xaY hx
  have hll:(l.take (2*j)).length=2*j:=by simp;omega
  have hA:(xbi (l.take (2*j))).length≤33554432:=by have:=(xcI (l.take (2*j))).1;omega
  have w1:IntKind.i64.wrap (((2*j:Nat):Int)+1)=((2*j+1:Nat):Int):=by rw [xbV (by omega) (by omega)];omega
  have w2:IntKind.i64.wrap (((2*j:Nat):Int)+2)=((2*(j+1):Nat):Int):=by rw [xbV (by omega) (by omega)];omega
  by_cases h2:2*j+1<l.length
  ·obtain ⟨y,hy⟩:∃y,l[2*j+1]? = some y:=⟨l[2*j+1],List.getElem?_eq_getElem h2⟩
   have t2:l.take (2*(j+1))=l.take (2*j)++[x,y]:=by
    rw [show 2*(j+1)=2*j+1+1 by omega,xaY hy,t1];simp
   rw [t2,xd3 j _ _ hll]
   generalize xbi (l.take (2*j))=A at hA
   simp only [Qgh_r0,un,cur0,xao,xbb,xay,ints,List.length_map,xah,w1,w2,show decide (((2*j:Nat):Int)<(l.length:Int))=true by simp;omega,show decide (((2*j+1:Nat):Int)<(l.length:Int))=true by simp;omega,if_true,xai,Int.toNat_natCast,List.getElem?_map,hx,hy,Option.map_some,show (0:Int)≤((2*j:Nat):Int) by omega,show (0:Int)≤((2*j+1:Nat):Int) by omega,true_and,xag,xt2,xbM,xbA,List.length_cons,List.length_nil,show A.length+(0+1)<1073741824 by omega]
   simp [xbi]
  ·have t2:l.take (2*(j+1))=l.take (2*j)++[x]:=by
    rw [←t1,List.take_of_length_le (by omega),List.take_of_length_le (by omega)]
   rw [t2,xd3 j _ _ hll]
   generalize xbi (l.take (2*j))=A at hA
   simp only [Qgh_r0,un,cur0,xao,xbb,xay,ints,List.length_map,xah,w1,w2,show decide (((2*j:Nat):Int)<(l.length:Int))=true by simp;omega,show decide (((2*j+1:Nat):Int)<(l.length:Int))=false by simp;omega,if_true,Bool.false_eq_true,if_false,xai,Int.toNat_natCast,List.getElem?_map,hx,Option.map_some,show (0:Int)≤((2*j:Nat):Int) by omega,true_and,xag,xbM,xbA,List.length_cons,List.length_nil,show A.length+(0+1)<1073741824 by omega]
   simp [xbi]
 ·have:l.take (2*((l.length+1) / 2))=l:=List.take_of_length_le (by omega)
  rw [this]
  simp only [Qgh_r0,un,cur0,xao,xay,ints,List.length_map,xah,show decide (((2*((l.length+1) / 2):Nat):Int)<(l.length:Int))=false by simp;omega]
  simp) k
theorem xrJ (k:List PV→Prop):∀(n:Nat) (l:List Int),l.length<n→1≤l.length→l.length≤33554432→(lp (fun L w=>Qgi_r0 w L (fun q3 q4=>xai 1 q3 (I 0) fun c5=>rt [.sc] [atP c5 0] k)) [ints l,I 0]↔k [I (xnt n l)])
 | 0,l,h,_,_=>by omega
 | n+1,l,h,h1,h2=>by
  unfold xnt
  by_cases hl:1<l.length
  ·have ha:=xcI l
   have ih:=xrJ k n (xbi l) (by omega) (by omega) (by omega)
   rw [if_pos hl]
   refine (xch fun K=>?_).trans ih
   have e:=xt1 l h2
   simp [Qgi_r0,show (1:Int)<l.length by omega,e]
  ·rw [if_neg hl]
   refine xaP fun K=>?_
   match l,h1,hl with
   | [a],_,_=>simp [Qgi_r0,ints,xai]
   | _::_::_,_,hl=>simp at hl
theorem xvQ (l:List Int) (h:l.length≤33554432) (k):call Qgi [.one (ints l)] k=k [I (xtm l)]:=xaa (fun k=>by
 have eh:∀(l:List Int),l.length<1000→∀k,call Qgf [.one (ints l)] k=k [I (xds l)]:=fun l hl=>xaa (fun k=>by simp [Qgf,xlH l (by omega)])
 unfold xtm
 by_cases h0:l.length=0
 ·have:l=[]:=List.eq_nil_of_length_eq_zero h0
  subst this
  have e:=eh [229] (by simp)
  rw [show ints [229]=PV.list 1 [[I 229]] from rfl] at e
  simp [Qgi,xbM,e]
 ·rw [if_neg h0]
  have e:=xrJ k (l.length+1) l (by omega) (by omega) h
  rw [←e]
  simp [Qgi,show ¬(l.length:Int)=0 by omega,show ¬l=[] by (rintro rfl;simp at h0)]) k
theorem xt0 (a b:Int) (k):call Qgj [.one (I a),.one (I b)] k=k [I (xds [231,a,b])]:=xaa (fun k=>by
 have eh:∀(l:List Int),l.length<1000→∀k,call Qgf [.one (ints l)] k=k [I (xds l)]:=fun l hl=>xaa (fun k=>by simp [Qgf,xlH l (by omega)])
 have e:=eh [231,a,b] (by simp)
 rw [show ints [231,a,b]=PV.list 1 [[I 231],[I a],[I b]] from rfl] at e
 simp [Qgj,xbM,e]) k
theorem xtZ (l:List xav) (h:xbh l≤33554432) (k):call Qgk [.one (.list 4 (l.map xaF))] k=k [I (xiD l)]:=xaa (fun k=>by
 have hl:=(xa2 h).1
 have e1:=xt3 l h
 have e2:=xvQ (l.map xd2) (by simpa using hl)
 simp [Qgk,e1,e2,xt0,xiD]) k
theorem xuf (a b:Int) (k):call Qdg [.one (I a),.one (I b)] k=k [I (xhF a b)]:=xaa (fun k=>by
 have eh:∀(l:List Int),l.length<1000→∀k,call Qcb [.one (ints l)] k=k [I (xds l)]:=fun l hl=>xlJ l (by omega)
 have e:=eh [229,a,b] (by simp)
 rw [show ints [229,a,b]=PV.list 1 [[I 229],[I a],[I b]] from rfl] at e
 simp [Qdg,xbM,e,xhF]) k
theorem xue (l:List Int) (h:l.length≤33554432) (k):call Qdh [.one (ints l)] k=k [ints (xbi l)]:=xaa (fun k=>by
 simp only [Qdh,xau,xdq,xaj,true_and,show (0:Nat)≤16777216 by omega]
 refine xmW ((l.length+1) / 2) (fun j=>[ints l,I ((2*j:Nat):Int),.list 1 [],ints (xbi (l.take (2*j)))]) (by simp [ints,xbi]) (fun j hj K=>?_) fun K=>?_
 ·have hlt:2*j<l.length:=by omega
  obtain ⟨x,hx⟩:∃x,l[2*j]? = some x:=⟨l[2*j],List.getElem?_eq_getElem hlt⟩
  have t1:l.take (2*j+1)=l.take (2*j)++[x]:=xaY hx
  have hll:(l.take (2*j)).length=2*j:=by simp;omega
  have hA:(xbi (l.take (2*j))).length≤33554432:=by have:=(xcI (l.take (2*j))).1;omega
  have w1:IntKind.i64.wrap (((2*j:Nat):Int)+1)=((2*j+1:Nat):Int):=by rw [xbV (by omega) (by omega)];omega
  have w2:IntKind.i64.wrap (((2*j:Nat):Int)+2)=((2*(j+1):Nat):Int):=by rw [xbV (by omega) (by omega)];omega
  by_cases h2:2*j+1<l.length
  ·obtain ⟨y,hy⟩:∃y,l[2*j+1]? = some y:=⟨l[2*j+1],List.getElem?_eq_getElem h2⟩
   have t2:l.take (2*(j+1))=l.take (2*j)++[x,y]:=by
    rw [show 2*(j+1)=2*j+1+1 by omega,xaY hy,t1];simp
   rw [t2,xd3 j _ _ hll]
   generalize xbi (l.take (2*j))=A at hA
   simp only [Qdh_r0,un,cur0,xao,xbb,xay,ints,List.length_map,xah,w1,w2,show decide (((2*j:Nat):Int)<(l.length:Int))=true by simp;omega,show decide (((2*j+1:Nat):Int)<(l.length:Int))=true by simp;omega,if_true,xai,Int.toNat_natCast,List.getElem?_map,hx,hy,Option.map_some,show (0:Int)≤((2*j:Nat):Int) by omega,show (0:Int)≤((2*j+1:Nat):Int) by omega,true_and,xag,xuf,xbM,xbA,List.length_cons,List.length_nil,show A.length+(0+1)<1073741824 by omega]
   simp [xbi]
  ·have t2:l.take (2*(j+1))=l.take (2*j)++[x]:=by
    rw [←t1,List.take_of_length_le (by omega),List.take_of_length_le (by omega)]
   rw [t2,xd3 j _ _ hll]
   generalize xbi (l.take (2*j))=A at hA
   simp only [Qdh_r0,un,cur0,xao,xbb,xay,ints,List.length_map,xah,w1,w2,show decide (((2*j:Nat):Int)<(l.length:Int))=true by simp;omega,show decide (((2*j+1:Nat):Int)<(l.length:Int))=false by simp;omega,if_true,Bool.false_eq_true,if_false,xai,Int.toNat_natCast,List.getElem?_map,hx,Option.map_some,show (0:Int)≤((2*j:Nat):Int) by omega,true_and,xag,xbM,xbA,List.length_cons,List.length_nil,show A.length+(0+1)<1073741824 by omega]
   simp [xbi]
 ·have:l.take (2*((l.length+1) / 2))=l:=List.take_of_length_le (by omega)
  rw [this]
  simp only [Qdh_r0,un,cur0,xao,xay,ints,List.length_map,xah,show decide (((2*((l.length+1) / 2):Nat):Int)<(l.length:Int))=false by simp;omega]
  simp) k
theorem xrK (k:List PV→Prop):∀(n:Nat) (l:List Int),l.length<n→1≤l.length→l.length≤33554432→(lp (fun L w=>Qdi_r0 w L (fun q3 q4=>xai 1 q4 (I 0) fun c5=>rt [.sc] [atP c5 0] k)) [I 0,ints l]↔k [I (xnt n l)])
 | 0,l,h,_,_=>by omega
 | n+1,l,h,h1,h2=>by
  unfold xnt
  by_cases hl:1<l.length
  ·have ha:=xcI l
   have ih:=xrK k n (xbi l) (by omega) (by omega) (by omega)
   rw [if_pos hl]
   refine (xch fun K=>?_).trans ih
   have e:=xue l h2
   simp [Qdi_r0,show (1:Int)<l.length by omega,e]
  ·rw [if_neg hl]
   refine xaP fun K=>?_
   match l,h1,hl with
   | [a],_,_=>simp [Qdi_r0,ints,xai]
   | _::_::_,_,hl=>simp at hl
theorem xwg (l:List Int) (h:l.length≤33554432) (k):call Qdi [.one (ints l)] k=k [I (xtm l)]:=xaa (fun k=>by
 have eh:∀(l:List Int),l.length<1000→∀k,call Qcb [.one (ints l)] k=k [I (xds l)]:=fun l hl=>xlJ l (by omega)
 unfold xtm
 by_cases h0:l.length=0
 ·have:l=[]:=List.eq_nil_of_length_eq_zero h0
  subst this
  have e:=eh [229] (by simp)
  rw [show ints [229]=PV.list 1 [[I 229]] from rfl] at e
  simp [Qdi,xbM,e]
 ·rw [if_neg h0]
  have e:=xrK k (l.length+1) l (by omega) (by omega) h
  rw [←e]
  simp [Qdi,show ¬(l.length:Int)=0 by omega,show ¬l=[] by (rintro rfl;simp at h0)]) k
theorem xud (a b:Int) (k):call Qdj [.one (I a),.one (I b)] k=k [I (xds [231,a,b])]:=xaa (fun k=>by
 have eh:∀(l:List Int),l.length<1000→∀k,call Qcb [.one (ints l)] k=k [I (xds l)]:=fun l hl=>xlJ l (by omega)
 have e:=eh [231,a,b] (by simp)
 rw [show ints [231,a,b]=PV.list 1 [[I 231],[I a],[I b]] from rfl] at e
 simp [Qdj,xbM,e]) k
theorem xuc (l:List xav) (h:xbh l≤33554432) (k):call Qdk [.one (.list 4 (l.map xaF))] k=k [I (xiD l)]:=xaa (fun k=>by
 have hl:=(xa2 h).1
 have e1:=xug l h
 have e2:=xwg (l.map xd2) (by simpa using hl)
 simp [Qdk,e1,e2,xud,xiD]) k
def xhI (root:Int) (l:List xav):Bool:=xce l&&decide (xiD l=root)
theorem xvP (root:Int) (l:List xav) (h:xbh l≤33554432) (k):call Qgl [.one (I root),.one (.list 4 (l.map xaF))] k=k [.bool (xhI root l)]:=xaa (fun k=>by
 have e1:=xt5 l h
 have e2:=xtZ l h
 simp only [Qgl,e1,e2,xaI,xec,xag,xah,xau,xap,xaj,xaq,true_and]
 exact xb9 fun _=>Iff.rfl) k
theorem xwf (root:Int) (l:List xav) (h:xbh l≤33554432) (k):call Qdl [.one (I root),.one (.list 4 (l.map xaF))] k=k [.bool (xhI root l)]:=xaa (fun k=>by
 have e1:=xui l h
 have e2:=xuc l h
 simp only [Qdl,e1,e2,xaI,xec,xag,xah,xau,xap,xaj,xaq,true_and]
 exact xb9 fun _=>Iff.rfl) k
def xc9 (z:xb4):Bool:=match xdr z.Chain with | some p=>decide (p.Count=(z.Entries.length:Int))&&xhI p.Root z.Entries | none=>false
theorem xhZ {l:List xaf} {p:xa8} (h:xdr l=some p):xaO l=true∧∃s,l[l.length-1]? = some s∧s.Head=p:=by
 unfold xdr at h
 split at h
 ·rename_i hc
  obtain ⟨s,hs,hp⟩:=Option.map_eq_some_iff.1 h
  exact ⟨hc,s,hs,hp⟩
 ·cases h
theorem xji {l:List xaf} (h:xdr l=none):xaO l=false:=by
 unfold xdr at h
 cases hc:xaO l with
 | false=>rfl
 | true =>
  obtain ⟨p,hp,_⟩:=xeS hc
  rw [hc,if_pos rfl,hp] at h;cases h
theorem xg9 {z:xb4} (h:xbZ z≤33554432):xan z.Chain≤33554432∧xbh z.Entries≤33554432:=by unfold xbZ at h;omega
theorem xub (z:xb4) (h:xbZ z≤33554432) (k):call Qdm [.agg (xcx z)] k=k [.bool (xc9 z)]:=xaa (fun k=>by
 obtain ⟨h1,h2⟩:=xg9 h
 have e:=xrd z.Chain h1
 unfold xc9
 cases hs:xdr z.Chain with
 | none=>simp [Qdm,e,hs,xd6,xdY]
 | some p =>
  have e2:=xwf p.Root z.Entries h2
  simp [Qdm,e,hs,xd6,e2]
  by_cases hc:p.Count=(z.Entries.length:Int)<;>simp [hc]) k
theorem xtY (z:xb4) (h:xbZ z≤33554432) (k):call Qgm [.agg (xcx z)] k=k [.bool (xc9 z)]:=xaa (fun k=>by
 obtain ⟨h1,h2⟩:=xg9 h
 have e:=xn0 z.Chain h1
 unfold xc9
 cases hs:xdr z.Chain with
 | none=>simp [Qgm,e,xji hs]
 | some p =>
  obtain ⟨hc,s,hp,rfl⟩:=xhZ hs
  have e1:=xsR z.Chain s (xbT h1).1 hp
  have e2:=xvP s.Head.Root z.Entries h2
  simp [Qgm,e,hc,e1,e2]
  by_cases hc:s.Head.Count=(z.Entries.length:Int)<;>simp [hc]) k
def xgp (z:xb4):Int:=if xc9 z=true then (match xdr z.Chain with | some p=>p.Zone | none=>-1) else -1
theorem xkt {z:xb4} (h:xc9 z=true):∃p,xdr z.Chain=some p:=by
 unfold xc9 at h
 cases hs:xdr z.Chain with
 | none=>rw [hs] at h;cases h
 | some p=>exact ⟨p,rfl⟩
theorem xwe (z:xb4) (h:xbZ z≤33554432) (k):call Qdn [.agg (xcx z)] k=k [I (xgp z)]:=xaa (fun k=>by
 obtain ⟨h1,h2⟩:=xg9 h
 have e1:=xrd z.Chain h1
 have e2:=xub z h
 unfold xgp
 cases hz:xc9 z with
 | false=>cases hs:xdr z.Chain<;>simp [Qdn,e1,e2,hz,hs,xd6,xdY]
 | true =>
  obtain ⟨p,hp⟩:=xkt hz
  simp [Qdn,e1,e2,hz,hp,xd6]) k
theorem xvO (z:xb4) (h:xbZ z≤33554432) (k):call Qgn [.agg (xcx z)] k=k [I (xgp z)]:=xaa (fun k=>by
 obtain ⟨h1,h2⟩:=xg9 h
 have e2:=xtY z h
 unfold xgp
 cases hz:xc9 z with
 | false=>simp [Qgn,e2,hz]
 | true =>
  obtain ⟨p,hp⟩:=xkt hz
  obtain ⟨hc,s,hs,rfl⟩:=xhZ hp
  have e1:=xsR z.Chain s (xbT h1).1 hs
  simp [Qgn,e1,e2,hz,hp]) k
theorem xiU {l:List xb4} (h:xb7 l≤1048576):l.length≤1048576∧∀z∈l,xbZ z≤1048576:=by
 unfold xb7 at h
 refine ⟨by omega,fun z hz=>?_⟩
 have:=xaZ (s:=xbZ) hz
 omega
theorem xeZ {l:List xb4} (h:xb7 l≤33554432):l.length≤33554432∧∀z∈l,xbZ z≤33554432:=by
 unfold xb7 at h
 refine ⟨by omega,fun z hz=>?_⟩
 have:=xaZ (s:=xbZ) hz
 omega
theorem xhk {α:Type} (p:α→Bool):∀(l:List α) (i:Nat),xeq p i l=-1∨((i:Int)≤xeq p i l∧xeq p i l<(i:Int)+l.length)
 | [],i=>.inl rfl
 | x::l,i=>by
  unfold xeq
  split
  ·right;simp;omega
  ·rcases xhk p l (i+1) with h | ⟨h1,h2⟩
   ·exact .inl h
   ·right;rw [List.length_cons];omega
theorem xk9 {α:Type} (p:Nat→α→Bool):∀(i:Nat) (l:List α),xj8 p i l<0→∀j x,l[j]? = some x→p (i+j) x=false
 | i,[],_,j,x,hx=>by simp at hx
 | i,y::l,h,j,x,hx=>by
  rw [xj8] at h
  split at h
  ·omega
  ·rename_i hp
   cases j with
   | zero=>simp at hx;subst hx;simpa using hp
   | succ j =>
    have:=xk9 p (i+1) l h j x (by simpa using hx)
    rwa [show i+(j+1)=i+1+j by omega]
theorem xqk {p:xa8} {s:xaf} (h:xnu p s=true):xcD s.Head=true:=by
 unfold xnu xol at h
 cases h1:xcD s.Head with
 | true=>rfl
 | false=>rw [h1] at h;cases h2:xcD p<;>simp [h2] at h
theorem xoW {l:List xaf} {p:xa8} (h:xdr l=some p):xcD p=true:=by
 obtain ⟨hc,s,hs,rfl⟩:=xhZ h
 unfold xaO at hc
 simp only [Bool.and_eq_true,decide_eq_true_eq] at hc
 have:=xk9 (xfj l) 0 l hc.2 (l.length-1) s hs
 unfold xfj at this
 split at this
 ·have h2:xcN s=true:=by simpa using this
  unfold xcN at h2
  simp only [Bool.and_eq_true] at h2
  exact h2.1
 ·split at this
  ·exact xqk (by simpa using this)
  ·cases this
theorem xh0 {l:List xaf} {p:xa8} (h:xdr l=some p):(0≤p.Count∧p.Count≤12)∧0≤p.Zone:=by
 have:=xoW h
 unfold xcD inR at this
 simp only [Bool.and_eq_true,decide_eq_true_eq] at this
 omega
abbrev xdX (l:List xaf):List PV:=[.list 17 (l.map xam)]
def xbe (s:ByteArray):Int:=(xds (xbr s)).tmod 4
theorem xgg {x:IntKind} {m n:Int} {k:PV→Prop}:xac .xor (.int x m) (.int x n) k=k (.int x (x.wrap ((BitVec.ofInt x.bits m ^^^ BitVec.ofInt x.bits n).toNat:Int))):=by simp [xac]
def xrx (s:ByteArray) (e:xav):Bool:=decide (e.Label=s)
def xca (l:List xav) (s:ByteArray):Int:=idx (xrx s) l
theorem xmM (l:List xav) (s:ByteArray):xca l s=-1∨(0≤xca l s∧xca l s<l.length):=by
 have:=xhk (xrx s) l 0
 simpa [xca,idx] using this
theorem xsI (l:List xav) (s:ByteArray) (h:l.length≤33554432) (k):call Qjd [.one (.list 4 (l.map xaF)),.one (.str s)] k=k [I (xca l s)]:=xaa (fun k=>by
 have e:∀k,call Qjc [.one (.list 4 (l.map xaF)),.fn 358 [.cells [.str s]]] k=k [I (xca l s)]:=xaa (fun k=>by
  simp [Qjc]
  refine xek (Q:=fun i=>k [I i]) l (fun i=>[.list 4 (l.map xaF),.str s,I 0,I l.length,I i]) (xrx s) rfl (fun i x hx hi K=>?_) fun K=>?_
  ·have e1:∀k,call Qjb [.agg (xaF x),.ro (.cells [.str s])] k=k [.bool (xrx s x)]:=xaa (fun k=>by
    simp [Qjb,xrx])
   simp only [Qjc_r0,un,cur0,xao,show (i:Int)<(l.length:Int) by omega,decide_true,xah,if_true,xai,Int.toNat_natCast,List.getElem?_map,hx,Option.map_some,show (0:Int)≤(i:Int) by omega,true_and,xag,xbq,e1,xbb,xal (show i<1000000000000000000 by omega)]
   cases xrx s x<;>simp
  ·simp [Qjc_r0])
 simp [Qjd,e]) k
theorem xsO (l:List xav) (s:ByteArray) (h:l.length≤33554432) (k):call Qhq [.one (.list 4 (l.map xaF)),.one (.str s)] k=k [I (xca l s)]:=xaa (fun k=>by
 simp only [Qhq]
 refine xek (Q:=fun i=>k [I i]) l (fun i=>[.list 4 (l.map xaF),.str s,I 0,I i]) (xrx s) rfl (fun i x hx hi K=>?_) fun K=>?_
 ·by_cases hq:x.Label=s<;>simp [-getElem?_pos,Qhq_r0,hx,hi,hq,xrx,xal (show i<1000000000000000000 by omega)]
 ·simp [Qhq_r0]) k
theorem xrR (i:Nat):i ^^^ 1=if i % 2=0 then i+1 else i-1:=by
 have h1:(i ^^^ 1) / 2=i / 2:=by rw [Nat.xor_div_two];simp
 have t:(i ^^^ 1).testBit 0=!(i.testBit 0):=by rw [Nat.testBit_xor];cases i.testBit 0<;>rfl
 have h2:(i ^^^ 1) % 2=(i+1) % 2:=by
  simp only [Nat.testBit_zero] at t
  generalize i ^^^ 1=j at *
  by_cases hi:i % 2=1<;>by_cases hj:j % 2=1<;>simp [hi,hj] at t<;>omega
 split<;>omega
def sib (i:Nat):Nat:=if i % 2=0 then i+1 else i-1
theorem xn7 (i:Nat) (h:i<1000000000000):IntKind.i64.wrap ((BitVec.ofInt IntKind.i64.bits (i:Int) ^^^ BitVec.ofInt IntKind.i64.bits 1).toNat:Int)=((sib i:Nat):Int):=by
 show IntKind.i64.wrap ((BitVec.ofInt 64 (i:Int) ^^^ BitVec.ofInt 64 1).toNat:Int)=_
 have e:(BitVec.ofInt 64 (i:Int) ^^^ BitVec.ofInt 64 1).toNat=sib i:=by
  rw [BitVec.toNat_xor]
  have e1:(BitVec.ofInt 64 (i:Int)).toNat=i:=by rw [BitVec.toNat_ofInt];omega
  have e2:(BitVec.ofInt 64 1).toNat=1:=rfl
  rw [e1,e2,xrR];rfl
 rw [e]
 have:sib i≤i+1:=by unfold sib;split<;>omega
 exact xbV (by omega) (by omega)
def xcr:Nat→List Int→Nat→List Int
 | 0,_,_=>[]
 | n+1,l,i=>if 1<l.length then (match l[sib i]? with | some x=>[x] | none=>[])++xcr n (xbi l) (i / 2) else []
theorem xi3:∀(n:Nat) (l:List Int) (i:Nat),(xcr n l i).length≤l.length
 | 0,_,_=>Nat.zero_le _
 | n+1,l,i=>by
  unfold xcr
  have ha:=xcI l
  split
  ·have:=xi3 n (xbi l) (i / 2)
   rw [List.length_append]
   split<;>simp<;>omega
  ·simp
def xjL (l:List Int) (i:Int):List Int:=if 0≤i∧i≤(l.length:Int)-1 then xcr (l.length+1) l i.toNat else []
theorem xoh (l:List Int) (i:Int):(xjL l i).length≤l.length:=by
 unfold xjL;split
 ·exact xi3 _ _ _
 ·simp
theorem xeK (k:List PV→Prop) (a:PV):∀(n:Nat) (l:List Int) (i:Nat) (acc:List Int),l.length<n→l.length≤33554432→i≤33554432→acc.length+l.length≤128000000 →
 (lp (fun L w=>Qje_r0 w L (fun q11 q12 q13 q14=>rt [.own true 3 1] [q14] k)) [ints l,I i,a,ints acc]↔k [ints (acc++xcr n l i)])
 | 0,l,i,acc,h,_,_,_=>by omega
 | n+1,l,i,acc,h,h1,h2,h3=>by
  have ha:=xcI l
  by_cases hl:1<l.length
  ·have e:=xt1 l h1
   have hsib:sib i≤i+1:=by unfold sib;split<;>omega
   have w4:IntKind.i64.wrap ((i:Int) / 2)=(i:Int) / 2:=xbV (by omega) (by omega)
   have ht:(i:Int).tmod 2=(i:Int) % 2:=Int.tmod_eq_emod_of_nonneg (by omega)
   cases hx:l[sib i]? with
   | some x =>
    have hlt:=xaM hx
    have ih:=xeK k a n (xbi l) (i / 2) (acc++[x]) (by omega) (by omega) (by omega) (by simp;omega)
    rw [List.append_assoc,show [x]++xcr n (xbi l) (i / 2)=xcr (n+1) l i by simp [xcr,hl,hx]] at ih
    refine (xch fun K=>?_).trans ih
    have hb:(acc.map rI).length+[[I x]].length<1073741824:=by simp;omega
    simp only [Qje_r0,un,cur0,ints,xay,List.length_map,xbp,show (1:Int)<(l.length:Int) by omega,decide_true,xah,if_true,xgg,xn7 i (by omega),xao,show ((sib i:Nat):Int)<(l.length:Int) by omega,xai,Int.toNat_natCast,List.getElem?_map,hx,Option.map_some,show (0:Int)≤((sib i:Nat):Int) by omega,true_and,xag,xbM,xfN,hb]
    simp only [ints] at e
    simp [e,w4]
    intro _;omega
   | none =>
    have hge:l.length≤sib i:=by simpa using hx
    have ih:=xeK k a n (xbi l) (i / 2) acc (by omega) (by omega) (by omega) (by omega)
    rw [show xcr n (xbi l) (i / 2)=xcr (n+1) l i by simp [xcr,hl,hx]] at ih
    refine (xch fun K=>?_).trans ih
    simp only [Qje_r0,un,cur0,ints,xay,List.length_map,xbp,show (1:Int)<(l.length:Int) by omega,decide_true,xah,if_true,xgg,xn7 i (by omega),xao,show ¬((sib i:Nat):Int)<(l.length:Int) by omega,decide_false,Bool.false_eq_true,if_false]
    simp only [ints] at e
    simp [e,w4]
  ·refine xaP fun K=>?_
   have:xcr (n+1) l i=[]:=by simp [xcr,hl]
   rw [this,List.append_nil]
   simp [Qje_r0,show ¬(1:Int)<(l.length:Int) by omega]
theorem xez (k:List PV→Prop) (a:PV):∀(n:Nat) (l:List Int) (i:Nat) (acc:List Int),l.length<n→l.length≤33554432→i≤33554432→acc.length+l.length≤128000000 →
 (lp (fun L w=>Qhr_r0 w L (fun q11 q12 q13 q14=>rt [.own true 3 1] [q14] k)) [I i,ints l,a,ints acc]↔k [ints (acc++xcr n l i)])
 | 0,l,i,acc,h,_,_,_=>by omega
 | n+1,l,i,acc,h,h1,h2,h3=>by
  have ha:=xcI l
  by_cases hl:1<l.length
  ·have e:=xue l h1
   have hsib:sib i≤i+1:=by unfold sib;split<;>omega
   have w4:IntKind.i64.wrap ((i:Int) / 2)=(i:Int) / 2:=xbV (by omega) (by omega)
   have ht:(i:Int).tmod 2=(i:Int) % 2:=Int.tmod_eq_emod_of_nonneg (by omega)
   have w1:IntKind.i64.wrap ((i:Int)+1)=(i:Int)+1:=xbV (by omega) (by omega)
   have w2:IntKind.i64.wrap (2*(i:Int).tmod 2)=2*(i:Int).tmod 2:=by rw [ht];exact xbV (by omega) (by omega)
   have w3:IntKind.i64.wrap ((i:Int)+1-2*(i:Int).tmod 2)=((sib i:Nat):Int):=by
    rw [show (i:Int)+1-2*(i:Int).tmod 2=((sib i:Nat):Int) by rw [ht];unfold sib;split<;>omega]
    exact xbV (by omega) (by omega)
   cases hx:l[sib i]? with
   | some x =>
    have hlt:=xaM hx
    have ih:=xez k a n (xbi l) (i / 2) (acc++[x]) (by omega) (by omega) (by omega) (by simp;omega)
    rw [List.append_assoc,show [x]++xcr n (xbi l) (i / 2)=xcr (n+1) l i by simp [xcr,hl,hx]] at ih
    refine (xch fun K=>?_).trans ih
    have hb:(acc.map rI).length+[[I x]].length<1073741824:=by simp;omega
    simp only [Qhr_r0,un,cur0,ints,xay,List.length_map,xbp,show (1:Int)<(l.length:Int) by omega,decide_true,xah,if_true,xbb,xcq,xni,xbu,w1,w2,w3,xao,show ((sib i:Nat):Int)<(l.length:Int) by omega,xai,Int.toNat_natCast,List.getElem?_map,hx,Option.map_some,show (0:Int)≤((sib i:Nat):Int) by omega,true_and,xag,xbM,xfN,hb]
    simp only [ints] at e
    simp [e,w4,w2,w3]
    intro _;omega
   | none =>
    have hge:l.length≤sib i:=by simpa using hx
    have ih:=xez k a n (xbi l) (i / 2) acc (by omega) (by omega) (by omega) (by omega)
    rw [show xcr n (xbi l) (i / 2)=xcr (n+1) l i by simp [xcr,hl,hx]] at ih
    refine (xch fun K=>?_).trans ih
    simp only [Qhr_r0,un,cur0,ints,xay,List.length_map,xbp,show (1:Int)<(l.length:Int) by omega,decide_true,xah,if_true,xbb,xcq,xni,xbu,w1,w2,w3,xao,show ¬((sib i:Nat):Int)<(l.length:Int) by omega,decide_false,Bool.false_eq_true,if_false]
    simp only [ints] at e
    simp [e,w4,w2,w3,show ¬((sib i:Nat):Int)<(l.length:Int) by omega]
  ·refine xaP fun K=>?_
   have:xcr (n+1) l i=[]:=by simp [xcr,hl]
   rw [this,List.append_nil]
   simp [Qhr_r0,show ¬(1:Int)<(l.length:Int) by omega]
theorem xvk (l:List Int) (i:Int) (h:l.length≤33554432) (k):call Qje [.one (ints l),.one (I i)] k=k [ints (xjL l i)]:=xaa (fun k=>by
 have w:IntKind.i64.wrap ((l.length:Int)-1)=(l.length:Int)-1:=xbV (by omega) (by omega)
 have e:∀k,call Qeb [.one (I i),.one (I 0),.one (I ((l.length:Int)-1))] k=k [.bool (decide (0≤i∧i≤(l.length:Int)-1))]:=xaa (fun k=>by
  by_cases h1:0≤i<;>simp [Qeb,h1])
 by_cases hc:0≤i∧i≤(l.length:Int)-1
 ·have e2:=xeK k (.list 1 []) (l.length+1) l i.toNat [] (by omega) h (by omega) (by simp;omega)
  rw [List.nil_append,show ((i.toNat:Nat):Int)=i by omega] at e2
  simp only [ints] at e2
  simp [Qje,w,e,hc,xjL,ints]
  simpa using e2
 ·simp [Qje,w,e,hc,xjL,ints]) k
theorem xvz (l:List Int) (i:Int) (h:l.length≤33554432) (k):call Qhr [.one (ints l),.one (I i)] k=k [ints (xjL l i)]:=xaa (fun k=>by
 have w:IntKind.i64.wrap ((l.length:Int)-1)=(l.length:Int)-1:=xbV (by omega) (by omega)
 have e:∀k,call Qbv [.one (I i),.one (I 0),.one (I ((l.length:Int)-1))] k=k [.bool (decide (0≤i∧i≤(l.length:Int)-1))]:=xaa (fun k=>by
  by_cases h1:0≤i<;>simp [Qbv,h1])
 by_cases hc:0≤i∧i≤(l.length:Int)-1
 ·have e2:=xez k (.list 1 []) (l.length+1) l i.toNat [] (by omega) h (by omega) (by simp;omega)
  rw [List.nil_append,show ((i.toNat:Nat):Int)=i by omega] at e2
  simp only [ints] at e2
  simp [Qhr,w,e,hc,xjL,ints]
  simpa using e2
 ·simp [Qhr,w,e,hc,xjL,ints]) k
def xd1 (l:List xav) (s:ByteArray):xcy:=if xca l s<0 then ⟨0,[]⟩ else ⟨xca l s,xjL (l.map xd2) (xca l s)⟩
theorem xq2 (l:List xav) (s:ByteArray) (h:xbh l≤33554432) (k):call Qjf [.one (.list 4 (l.map xaF)),.one (.str s)] k=k (xc7 (xd1 l s)++[.bool (!decide (xca l s<0))]):=xaa (fun k=>by
 have hl:=(xa2 h).1
 have e1:=xsI l s hl
 have e2:=xt3 l h
 have e3:=xvk (l.map xd2) (xca l s) (by simpa using hl)
 by_cases hc:xca l s<0
 ·simp [Qjf,e1,hc,xd1,ints]
 ·simp [Qjf,e1,e2,e3,hc,xd1]) k
theorem xq5 (l:List xav) (s:ByteArray) (h:xbh l≤33554432) (k):call Qhs [.one (.list 4 (l.map xaF)),.one (.str s)] k=k (xc7 (xd1 l s)++[.bool (!decide (xca l s<0))]):=xaa (fun k=>by
 have hl:=(xa2 h).1
 have e1:=xsO l s hl
 have e2:=xug l h
 have e3:=xvz (l.map xd2) (xca l s) (by simpa using hl)
 by_cases hc:xca l s<0
 ·simp [Qhs,e1,hc,xd1,ints]
 ·simp [Qhs,e1,e2,e3,hc,xd1]) k
def xff (l:List xav) (s:ByteArray):Nat:=l.countP fun e=>decide (xeQ e.Label s<0)
theorem xmI (l:List xav) (s:ByteArray):xff l s≤l.length:=List.countP_le_length
theorem xiX {α:Type} (p:α→Bool) {l:List α} {i:Nat} {x:α} (hx:l[i]? = some x):(l.take (i+1)).countP p=(l.take i).countP p+if p x=true then 1 else 0:=by
 rw [xaY hx,List.countP_append,List.countP_cons,List.countP_nil];simp
theorem xvj (l:List xav) (s:ByteArray) (h:l.length≤33554432) (k):call Qjg [.one (.list 4 (l.map xaF)),.one (.str s)] k=k [I (xff l s)]:=xaa (fun k=>by
 simp only [Qjg,xay,List.length_map]
 refine xbD l (fun i=>[.str s,I 0,I (((l.take i).countP fun e=>decide (xeQ e.Label s<0):Nat):Int),.list 4 (l.map xaF),I l.length,I i]) rfl (fun i x hx hi K=>?_) fun K=>?_
 ·have hc:(l.take i).countP (fun e=>decide (xeQ e.Label s<0))≤i:=Nat.le_trans List.countP_le_length (by simp;omega)
  have t:=xiX (fun e:xav=>decide (xeQ e.Label s<0)) hx
  by_cases hq:xeQ x.Label s<0
  ·rw [decide_eq_true hq,if_pos rfl] at t
   simp [-getElem?_pos,Qjg_r0,hx,hi,xq7,hq,t,xal (show i<1000000000000000000 by omega),xal (show (l.take i).countP (fun e=>decide (xeQ e.Label s<0))<1000000000000000000 by omega)]
  ·rw [decide_eq_false hq,if_neg (by simp)] at t
   simp [-getElem?_pos,Qjg_r0,hx,hi,xq7,hq,t,xal (show i<1000000000000000000 by omega)]
 ·simp [Qjg_r0,xff]) k
theorem xvy (l:List xav) (s:ByteArray) (h:l.length≤33554432) (k):call Qht [.one (.list 4 (l.map xaF)),.one (.str s)] k=k [I (xff l s)]:=xaa (fun k=>by
 simp only [Qht]
 refine xbD l (fun i=>[.list 4 (l.map xaF),.str s,I 0,I (((l.take i).countP fun e=>decide (xeQ e.Label s<0):Nat):Int),I i]) rfl (fun i x hx hi K=>?_) fun K=>?_
 ·have hc:(l.take i).countP (fun e=>decide (xeQ e.Label s<0))≤i:=Nat.le_trans List.countP_le_length (by simp;omega)
  have t:=xiX (fun e:xav=>decide (xeQ e.Label s<0)) hx
  by_cases hq:xeQ x.Label s<0
  ·rw [decide_eq_true hq,if_pos rfl] at t
   simp [-getElem?_pos,Qht_r0,hx,hi,xrc,hq,t,xal (show i<1000000000000000000 by omega),xal (show (l.take i).countP (fun e=>decide (xeQ e.Label s<0))<1000000000000000000 by omega)]
  ·rw [decide_eq_false hq,if_neg (by simp)] at t
   simp [-getElem?_pos,Qht_r0,hx,hi,xrc,hq,t,xal (show i<1000000000000000000 by omega)]
 ·simp [Qht_r0,xff]) k
def xc8:xav:=⟨⟨#[]⟩,0,0,[]⟩
def zPr:xcy:=⟨0,[]⟩
def xdm:xkr:=⟨0,xc8,xc8,zPr,zPr⟩
def xgw (l:List xav) (s:ByteArray):Bool:=!xce l||(!xcs s||decide (0≤xca l s))
def xp5 (l:List xav) (s:ByteArray):xkr :=
 let r:=xff l s
 ⟨r,if 0<r then l.getD (r-1) xc8 else xc8,if r<l.length then l.getD r xc8 else xc8,
  if 0<r then xd1 l (l.getD (r-1) xc8).Label else zPr,if r<l.length then xd1 l (l.getD r xc8).Label else zPr⟩
def xnv (l:List xav) (s:ByteArray):xkr:=if xgw l s=true then xdm else xp5 l s
theorem xvi (l:List xav) (s:ByteArray) (h:xbh l≤33554432) (hs:s.size≤33554432) (k):call Qjh [.one (.list 4 (l.map xaF)),.one (.str s)] k=k (xnb (xnv l s)++[.bool (!xgw l s)]):=xaa (fun k=>by
 have hl:=(xa2 h).1
 have hm:=(xa2 h).2
 have e1:=xsI l s hl
 have e2:=xt5 l h
 have e3:=xpJ s hs
 have e4:=xvj l s hl
 cases c1:xce l
 ·simp [Qjh,e2,c1,xnv,xgw,xdm,xc8,zPr,ints,strs]
 cases c2:xcs s
 ·simp [Qjh,e2,e3,c1,c2,xnv,xgw,xdm,xc8,zPr,ints,strs]
 by_cases c3:0≤xca l s
 ·simp [Qjh,e1,e2,e3,c1,c2,c3,xnv,xgw,xdm,xc8,zPr,ints,strs]
 have hn:xgw l s=false:=by simp [xgw,c1,c2,c3]
 have hr:=xmI l s
 rw [hn,xnv,hn,xp5]
 generalize xff l s=r at *
 have w:IntKind.i64.wrap ((r:Int)-1)=((r-1:Nat):Int)∨r=0:=by
  by_cases h0:r=0
  ·exact .inr h0
  ·left;rw [xbV (by omega) (by omega)];omega
 have hg:∀i,i<l.length→∃x,l[i]? = some x∧l.getD i xc8=x∧xaz x≤33554432:=fun i hi=>⟨l[i],List.getElem?_eq_getElem hi,by simp [List.getD,List.getElem?_eq_getElem hi],hm _ (List.getElem_mem hi)⟩
 by_cases h0:0<r
 ·obtain ⟨x,hx1,hx2,hx3⟩:=hg (r-1) (by omega)
  have w':=w.resolve_right (by omega)
  have ex:=xlI x hx3
  have px:=xq2 l x.Label h
  by_cases h1:r<l.length
  ·obtain ⟨y,hy1,hy2,hy3⟩:=hg r h1
   have ey:=xlI y hy3
   have py:=xq2 l y.Label h
   rw [hx2,hy2]
   simp [-getElem?_pos,Qjh,e1,e2,e3,e4,c1,c2,c3,h0,h1,w',hx1,hy1,ex,ey,px,py]
  ·rw [hx2]
   simp [-getElem?_pos,Qjh,e1,e2,e3,e4,c1,c2,c3,h0,h1,w',hx1,ex,px,xc8,zPr,ints,strs]
 ·by_cases h1:r<l.length
  ·obtain ⟨y,hy1,hy2,hy3⟩:=hg r h1
   have ey:=xlI y hy3
   have py:=xq2 l y.Label h
   rw [hy2]
   simp [-getElem?_pos,Qjh,e1,e2,e3,e4,c1,c2,c3,h0,h1,hy1,ey,py,xc8,zPr,ints,strs]
  ·simp [-getElem?_pos,Qjh,e1,e2,e3,e4,c1,c2,c3,h0,h1,xc8,zPr,ints,strs]) k
theorem xvx (l:List xav) (s:ByteArray) (h:xbh l≤33554432) (hs:s.size≤33554432) (k):call Qhu [.one (.list 4 (l.map xaF)),.one (.str s)] k=k (xnb (xnv l s)++[.bool (!xgw l s)]):=xaa (fun k=>by
 have hl:=(xa2 h).1
 have hm:=(xa2 h).2
 have e1:=xsO l s hl
 have e2:=xui l h
 have e3:=xpK s hs
 have e4:=xvy l s hl
 cases c1:xce l
 ·simp [Qhu,e2,c1,xnv,xgw,xdm,xc8,zPr,ints,strs]
 cases c2:xcs s
 ·simp [Qhu,e2,e3,c1,c2,xnv,xgw,xdm,xc8,zPr,ints,strs]
 by_cases c3:0≤xca l s
 ·simp [Qhu,e1,e2,e3,c1,c2,c3,xnv,xgw,xdm,xc8,zPr,ints,strs]
 have hn:xgw l s=false:=by simp [xgw,c1,c2,c3]
 have hr:=xmI l s
 rw [hn,xnv,hn,xp5]
 generalize xff l s=r at *
 have w:IntKind.i64.wrap ((r:Int)-1)=((r-1:Nat):Int)∨r=0:=by
  by_cases h0:r=0
  ·exact .inr h0
  ·left;rw [xbV (by omega) (by omega)];omega
 have hg:∀i,i<l.length→∃x,l[i]? = some x∧l.getD i xc8=x∧xaz x≤33554432:=fun i hi=>⟨l[i],List.getElem?_eq_getElem hi,by simp [List.getD,List.getElem?_eq_getElem hi],hm _ (List.getElem_mem hi)⟩
 by_cases h0:0<r
 ·obtain ⟨x,hx1,hx2,hx3⟩:=hg (r-1) (by omega)
  have w':=w.resolve_right (by omega)
  have ex:=xlK x hx3
  have px:=xq5 l x.Label h
  by_cases h1:r<l.length
  ·obtain ⟨y,hy1,hy2,hy3⟩:=hg r h1
   have ey:=xlK y hy3
   have py:=xq5 l y.Label h
   rw [hx2,hy2]
   simp [-getElem?_pos,Qhu,e1,e2,e3,e4,c1,c2,c3,h0,h1,w',hx1,hy1,ex,ey,px,py]
  ·rw [hx2]
   simp [-getElem?_pos,Qhu,e1,e2,e3,e4,c1,c2,c3,h0,h1,w',hx1,ex,px,xc8,zPr,ints,strs]
 ·by_cases h1:r<l.length
  ·obtain ⟨y,hy1,hy2,hy3⟩:=hg r h1
   have ey:=xlK y hy3
   have py:=xq5 l y.Label h
   rw [hy2]
   simp [-getElem?_pos,Qhu,e1,e2,e3,e4,c1,c2,c3,h0,h1,hy1,ey,py,xc8,zPr,ints,strs]
  ·simp [-getElem?_pos,Qhu,e1,e2,e3,e4,c1,c2,c3,h0,h1,xc8,zPr,ints,strs]) k
def xfT:xaJ:=⟨[],false,xc8,zPr,xdm⟩
def xdt (z:xb4) (s:ByteArray):xaJ :=
 if (xc9 z&&xcs s)=true then (if 0≤xca z.Entries s then ⟨z.Chain,true,z.Entries.getD (xca z.Entries s).toNat xc8,xd1 z.Entries s,xdm⟩ else ⟨z.Chain,false,xc8,zPr,xnv z.Entries s⟩) else xfT
theorem xvh (z:xb4) (s:ByteArray) (h:xbZ z≤33554432) (hs:s.size≤33554432) (k):call Qji [.agg (xcx z),.one (.str s)] k=k (xax (xdt z s)):=xaa (fun k=>by
 obtain ⟨hc,he⟩:=xgk h
 have hl:=(xa2 he).1
 have hm:=(xa2 he).2
 have e1:=xtY z h
 have e2:=xpJ s hs
 have e3:=xrb z.Chain hc
 have e4:=xsI z.Entries s hl
 have e5:=xq2 z.Entries s he
 have e6:=xvi z.Entries s he hs
 cases c1:xc9 z
 ·simp [Qji,e1,c1,xdt,xfT,xax,xdm,xc8,zPr,ints,strs]
 cases c2:xcs s
 ·simp [Qji,e1,e2,c1,c2,xdt,xfT,xax,xdm,xc8,zPr,ints,strs]
 by_cases c3:0≤xca z.Entries s
 ·rcases xmM z.Entries s with hb | ⟨hb1,hb2⟩
  ·omega
  have hi:(xca z.Entries s).toNat<z.Entries.length:=by omega
  have hx:z.Entries[(xca z.Entries s).toNat]? = some z.Entries[(xca z.Entries s).toNat]:=List.getElem?_eq_getElem hi
  have hd:z.Entries.getD (xca z.Entries s).toNat xc8=z.Entries[(xca z.Entries s).toNat]:=by simp [List.getD,hx]
  have hmx:=hm _ (List.getElem_mem hi)
  generalize z.Entries[(xca z.Entries s).toNat]=x at *
  have e7:=xlI x hmx
  simp [-getElem?_pos,Qji,e1,e2,e3,e4,e5,e7,c1,c2,c3,hx,xdt,hd,xax,xdm,xc8,zPr,ints,strs]
 ·simp [Qji,e1,e2,e3,e4,e6,c1,c2,c3,xdt,xax,xc8,zPr,ints,strs]) k
theorem xvw (z:xb4) (s:ByteArray) (h:xbZ z≤33554432) (hs:s.size≤33554432) (k):call Qhv [.agg (xcx z),.one (.str s)] k=k (xax (xdt z s)):=xaa (fun k=>by
 obtain ⟨hc,he⟩:=xgk h
 have hl:=(xa2 he).1
 have hm:=(xa2 he).2
 have e1:=xub z h
 have e2:=xpK s hs
 have e3:=xrj z.Chain hc
 have e4:=xsO z.Entries s hl
 have e5:=xq5 z.Entries s he
 have e6:=xvx z.Entries s he hs
 cases c1:xc9 z
 ·simp [Qhv,e1,c1,xdt,xfT,xax,xdm,xc8,zPr,ints,strs]
 cases c2:xcs s
 ·simp [Qhv,e1,e2,c1,c2,xdt,xfT,xax,xdm,xc8,zPr,ints,strs]
 by_cases c3:0≤xca z.Entries s
 ·rcases xmM z.Entries s with hb | ⟨hb1,hb2⟩
  ·omega
  have hi:(xca z.Entries s).toNat<z.Entries.length:=by omega
  have hx:z.Entries[(xca z.Entries s).toNat]? = some z.Entries[(xca z.Entries s).toNat]:=List.getElem?_eq_getElem hi
  have hd:z.Entries.getD (xca z.Entries s).toNat xc8=z.Entries[(xca z.Entries s).toNat]:=by simp [List.getD,hx]
  have hmx:=hm _ (List.getElem_mem hi)
  generalize z.Entries[(xca z.Entries s).toNat]=x at *
  have e7:=xlK x hmx
  simp [-getElem?_pos,Qhv,e1,e2,e3,e4,e5,e7,c1,c2,c3,hx,xdt,hd,xax,xdm,xc8,zPr,ints,strs]
 ·simp [Qhv,e1,e2,e3,e4,e6,c1,c2,c3,xdt,xax,xc8,zPr,ints,strs]) k
def xjK (zone:Int) (z:xb4):Bool:=(xgp z==zone)&&decide (0≤zone)
def xaB (s:xaS) (zone:Int):Int:=idx (xjK zone) s.Zones
theorem xjt {α:Type} {p:α→Bool} (h:∀x,p x=false):∀(l:List α) (i:Nat),xeq p i l=-1
 | [],_=>rfl
 | x::l,i=>by unfold xeq;rw [h x];exact xjt h l (i+1)
theorem xe0 (s:xaS) (zone:Int):xaB s zone=-1∨(0≤xaB s zone∧xaB s zone<s.Zones.length):=by
 have:=xhk (xjK zone) s.Zones 0
 simpa [xaB,idx] using this
theorem xtS (s:xaS) (zone:Int) (h:xaX s≤33554432) (k):call Qja [.agg (xaU s),.one (I zone)] k=k [I (xaB s zone)]:=xaa (fun k=>by
 by_cases c:zone<0
 ·have e:xaB s zone=-1:=xjt (fun x=>by simp [xjK,show ¬0≤zone by omega]) s.Zones 0
  simp [Qja,c,e]
 ·obtain ⟨hl,hz⟩:=xeZ (show xb7 s.Zones≤33554432 from h)
  have e:∀k,call Qiz [.one (.list 2 (s.Zones.map xcx)),.fn 249 [.cells [I zone]]] k=k [I (xaB s zone)]:=xaa (fun k=>by
   simp [Qiz]
   refine xek (Q:=fun i=>k [I i]) s.Zones (fun i=>[.list 2 (s.Zones.map xcx),I zone,I 0,I s.Zones.length,I i]) (xjK zone) rfl (fun i x hx hi K=>?_) fun K=>?_
   ·have hm:=hz x (List.mem_of_getElem? hx)
    have e1:∀k,call Qiy [.agg (xcx x),.ro (.cells [I zone])] k=k [.bool (xjK zone x)]:=xaa (fun k=>by
     simp [Qiy,xvO x hm,xjK,show 0≤zone by omega])
    cases hq:xjK zone x<;>simp [-getElem?_pos,Qiz_r0,hx,hi,e1,hq,xal (show i<1000000000000000000 by omega)]
   ·simp [Qiz_r0])
  simp [Qja,c,e]) k
theorem xtU (s:xaS) (zone:Int) (h:xaX s≤33554432) (k):call Qhp [.agg (xaU s),.one (I zone)] k=k [I (xaB s zone)]:=xaa (fun k=>by
 obtain ⟨hl,hz⟩:=xeZ (show xb7 s.Zones≤33554432 from h)
 simp only [Qhp,un,cur0]
 refine xek (Q:=fun i=>k [I i]) s.Zones (fun i=>[I zone,I 0,I i,.list 2 (s.Zones.map xcx),I s.Lie]) (xjK zone) rfl (fun i x hx hi K=>?_) fun K=>?_
 ·have hm:=hz x (List.mem_of_getElem? hx)
  by_cases c1:xgp x=zone<;>by_cases c2:0≤zone<;>simp [-getElem?_pos,Qhp_r0,hx,hi,xwe x hm,c1,c2,xjK,xal (show i<1000000000000000000 by omega)]
 ·simp [Qhp_r0]) k
def xjN (s:xaS) (zone:Int) (label:ByteArray):xaJ :=
 if xaB s zone<0∨s.Lie=4 then xfT else
 let a:=xdt (s.Zones.getD (xaB s zone).toNat ⟨[],[]⟩) label
 if s.Lie=1 then { a with Entry:={ a.Entry with Value:=IntKind.i64.wrap (a.Entry.Value+1) } }
 else if s.Lie=2 then { a with Chain:=a.Chain.take (a.Chain.length-1) }
 else if s.Lie=3 then { xfT with Chain:=a.Chain } else a
theorem xvg (s:xaS) (zone:Int) (label:ByteArray) (h:xaX s≤33554432) (hs:label.size≤33554432) (k):call Qjj [.agg (xaU s),.one (I zone),.one (.str label)] k=k (xax (xjN s zone label)):=xaa (fun k=>by
 obtain ⟨hl,hz⟩:=xeZ (show xb7 s.Zones≤33554432 from h)
 have e1:=xtS s zone h
 by_cases c1:xaB s zone<0
 ·simp [Qjj,e1,c1,xjN,xfT,xax,xdm,xc8,zPr,ints,strs]
 by_cases c2:s.Lie=4
 ·have f:=e1
  simp only [xaU,c2] at f
  simp [Qjj,e1,f,c1,c2,xjN,xfT,xax,xdm,xc8,zPr,ints,strs]
 rcases xe0 s zone with hb | ⟨hb1,hb2⟩
 ·omega
 have hi:(xaB s zone).toNat<s.Zones.length:=by omega
 have hx:s.Zones[(xaB s zone).toNat]? = some s.Zones[(xaB s zone).toNat]:=List.getElem?_eq_getElem hi
 have hd:s.Zones.getD (xaB s zone).toNat ⟨[],[]⟩=s.Zones[(xaB s zone).toNat]:=by simp [List.getD,hx]
 have hm:=hz _ (List.getElem_mem hi)
 unfold xjN
 rw [hd]
 generalize s.Zones[(xaB s zone).toNat]=z at *
 have e2:=xvh z label hm hs
 have hlen:(xdt z label).Chain.length≤33554432:=by
  have h1:z.Chain.length≤33554432:=(xgd (xgk hm).1).1
  unfold xdt;split
  ·split<;>exact h1
  ·exact Nat.zero_le _
 generalize xdt z label=a at *
 by_cases c3:s.Lie=1
 ·have f:=e1
  simp only [xaU,c3] at f
  simp [-getElem?_pos,Qjj,e1,f,c1,c2,hx,show 0≤xaB s zone by omega,e2,c3,xax]
 by_cases c4:s.Lie=2
 ·have f:=e1
  simp only [xaU,c4] at f
  have w:IntKind.i64.wrap ((a.Chain.length:Int)-1)=(a.Chain.length:Int)-1:=xbV (by omega) (by omega)
  by_cases c6:(1:Int)<(a.Chain.length:Int)
  ·have c7:((a.Chain.length:Int)-1).toNat=a.Chain.length-1:=by omega
   simp [-getElem?_pos,Qjj,e1,f,c1,c2,hx,show 0≤xaB s zone by omega,e2,c3,c4,w,xax,xtf,c6,xlZ,c7,xkg,show (0:Int)≤(a.Chain.length:Int)-1 by omega,show (1:Int)≤(a.Chain.length:Int) by omega]
   intro _;omega
  ·have c7:a.Chain.length-1=0:=by omega
   simp [-getElem?_pos,Qjj,e1,f,c1,c2,hx,show 0≤xaB s zone by omega,e2,c3,c4,w,xax,xtf,c6,xlZ,c7,xkg]
 by_cases c5:s.Lie=3
 ·have f:=e1
  simp only [xaU,c5] at f
  simp [-getElem?_pos,Qjj,e1,f,c1,c2,hx,show 0≤xaB s zone by omega,e2,c3,c4,c5,xfT,xax,xdm,xc8,zPr,ints,strs]
 ·simp [-getElem?_pos,Qjj,e1,c1,c2,hx,show 0≤xaB s zone by omega,e2,c3,c4,c5]) k
theorem xvv (s:xaS) (zone:Int) (label:ByteArray) (h:xaX s≤33554432) (hs:label.size≤33554432) (k):call Qhw [.agg (xaU s),.one (I zone),.one (.str label)] k=k (xax (xjN s zone label)):=xaa (fun k=>by
 obtain ⟨hl,hz⟩:=xeZ (show xb7 s.Zones≤33554432 from h)
 have e1:=xtU s zone h
 by_cases c1:xaB s zone<0
 ·simp [Qhw,e1,c1,xjN,xfT,xax,xdm,xc8,zPr,ints,strs]
 by_cases c2:s.Lie=4
 ·have f:=e1
  simp only [xaU,c2] at f
  simp [Qhw,e1,f,c1,c2,xjN,xfT,xax,xdm,xc8,zPr,ints,strs]
 rcases xe0 s zone with hb | ⟨hb1,hb2⟩
 ·omega
 have hi:(xaB s zone).toNat<s.Zones.length:=by omega
 have hx:s.Zones[(xaB s zone).toNat]? = some s.Zones[(xaB s zone).toNat]:=List.getElem?_eq_getElem hi
 have hd:s.Zones.getD (xaB s zone).toNat ⟨[],[]⟩=s.Zones[(xaB s zone).toNat]:=by simp [List.getD,hx]
 have hm:=hz _ (List.getElem_mem hi)
 unfold xjN
 rw [hd]
 generalize s.Zones[(xaB s zone).toNat]=z at *
 have e2:=xvw z label hm hs
 have hlen:(xdt z label).Chain.length≤33554432:=by
  have h1:z.Chain.length≤33554432:=(xgd (xgk hm).1).1
  unfold xdt;split
  ·split<;>exact h1
  ·exact Nat.zero_le _
 generalize xdt z label=a at *
 by_cases c3:s.Lie=1
 ·have f:=e1
  simp only [xaU,c3] at f
  simp [-getElem?_pos,Qhw,e1,f,c1,c2,hx,show 0≤xaB s zone by omega,e2,c3,xax]
 by_cases c4:s.Lie=2
 ·have f:=e1
  simp only [xaU,c4] at f
  have w:IntKind.i64.wrap ((a.Chain.length:Int)-1)=(a.Chain.length:Int)-1:=xbV (by omega) (by omega)
  by_cases c6:0<a.Chain.length
  ·have c7:((a.Chain.length:Int)-1).toNat=a.Chain.length-1:=by omega
   simp [-getElem?_pos,Qhw,e1,f,c1,c2,hx,show 0≤xaB s zone by omega,e2,c3,c4,w,xax,c6,xlZ,c7,xkg,show (1:Int)≤(a.Chain.length:Int) by omega]
   intro _;omega
  ·have c7:a.Chain=[]:=List.eq_nil_of_length_eq_zero (by omega)
   simp [-getElem?_pos,Qhw,e1,f,c1,c2,hx,show 0≤xaB s zone by omega,e2,c3,c4,w,xax,c7]
 by_cases c5:s.Lie=3
 ·have f:=e1
  simp only [xaU,c5] at f
  simp [-getElem?_pos,Qhw,e1,f,c1,c2,hx,show 0≤xaB s zone by omega,e2,c3,c4,c5,xfT,xax,xdm,xc8,zPr,ints,strs]
 ·simp [-getElem?_pos,Qhw,e1,c1,c2,hx,show 0≤xaB s zone by omega,e2,c3,c4,c5]) k
theorem xtT (s:ByteArray) (hl:s.size<1000000000) (k):call Qiw [.one (.str s)] k=k [I (xbe s)]:=xaa (fun k=>by
 simp [Qiw,xsQ s hl,xlH _ (show (xbr s).length<_ by rw [xbH];omega),xbe]) k
theorem xtV (s:ByteArray) (hl:s.size<1000000000) (k):call Qhn [.one (.str s)] k=k [I (xbe s)]:=xaa (fun k=>by
 simp [Qhn,xsY s hl,xlJ _ (show (xbr s).length<_ by rw [xbH];omega),xbe]) k
def xeU (b:Int) (e:xav):Bool:=decide (xbe e.Label=b)
def xfg (s:xaS) (zone b:Int):List xaJ :=
 if xaB s zone<0 then [] else ((s.Zones.getD (xaB s zone).toNat ⟨[],[]⟩).Entries.filter (xeU b)).map fun e=>xjN s zone e.Label
theorem xht {α:Type} (p:α→Bool) {l:List α} {i:Nat} {x:α} (hx:l[i]? = some x):(l.take (i+1)).filter p=(l.take i).filter p++if p x=true then [x] else []:=by
 rw [xaY hx,List.filter_append]
 cases h:p x<;>simp [h]
theorem xvf (s:xaS) (zone b:Int) (h:xaX s≤33554432) (k):call Qjk [.agg (xaU s),.agg [I zone,I b]] k=k [.list 21 ((xfg s zone b).map xax)]:=xaa (fun k=>by
 obtain ⟨hl,hz⟩:=xeZ (show xb7 s.Zones≤33554432 from h)
 have e1:=xtS s zone h
 by_cases c1:xaB s zone<0
 ·simp [Qjk,e1,c1,xfg]
 rcases xe0 s zone with hb | ⟨hb1,hb2⟩
 ·omega
 have hi:(xaB s zone).toNat<s.Zones.length:=by omega
 have hx:s.Zones[(xaB s zone).toNat]? = some s.Zones[(xaB s zone).toNat]:=List.getElem?_eq_getElem hi
 have hd:s.Zones.getD (xaB s zone).toNat ⟨[],[]⟩=s.Zones[(xaB s zone).toNat]:=by simp [List.getD,hx]
 have hm:=hz _ (List.getElem_mem hi)
 unfold xfg
 rw [hd,if_neg c1]
 generalize s.Zones[(xaB s zone).toNat]=z at *
 have he:=(xgk hm).2
 have hel:=(xa2 he).1
 have hem:=(xa2 he).2
 simp [-getElem?_pos,Qjk,e1,c1,hx,show 0≤xaB s zone by omega]
 refine xbD z.Entries (fun i=>[.list 4 (z.Entries.map xaF),I z.Entries.length,I i,I zone,I b,.list 2 (s.Zones.map xcx),I s.Lie,.list 21 [],.list 21 ((((z.Entries.take i).filter (xeU b)).map fun e=>xjN s zone e.Label).map xax)]) (by simp) (fun i x hx hi K=>?_) fun K=>?_
 ·have hmx:=hem x (List.mem_of_getElem? hx)
  have hsz:x.Label.size≤33554432:=by unfold xaz at hmx;omega
  have e2:=xtT x.Label (by omega)
  have e3:=xvg s zone x.Label h hsz
  have t:=xht (xeU b) hx
  have hn:((z.Entries.take i).filter (xeU b)).length≤i:=Nat.le_trans (List.length_filter_le _ _) (by simp;omega)
  generalize (z.Entries.take i).filter (xeU b)=acc at *
  by_cases hq:xbe x.Label=b
  ·have hq':xeU b x=true:=by simp [xeU,hq]
   rw [if_pos hq'] at t
   have hbd:((acc.map fun e=>xjN s zone e.Label).map xax).length+1<1073741824:=by simp;omega
   simp only [t,List.map_append,List.map_cons,List.map_nil]
   generalize (acc.map fun e=>xjN s zone e.Label).map xax=A at *
   generalize xjN s zone x.Label=y at *
   simp [-getElem?_pos,Qjk_r0,hx,hi,e2,e3,hq,xal (show i<1000000000000000000 by omega),hbd,xax]
  ·have hq':xeU b x=false:=by simp [xeU,hq]
   rw [hq',if_neg (by simp),List.append_nil] at t
   simp only [t]
   simp [-getElem?_pos,Qjk_r0,hx,hi,e2,hq,xal (show i<1000000000000000000 by omega)]
 ·simp [Qjk_r0]) k
theorem xvu (s:xaS) (zone b:Int) (h:xaX s≤33554432) (k):call Qhx [.agg (xaU s),.agg [I zone,I b]] k=k [.list 21 ((xfg s zone b).map xax)]:=xaa (fun k=>by
 obtain ⟨hl,hz⟩:=xeZ (show xb7 s.Zones≤33554432 from h)
 have e1:=xtU s zone h
 by_cases c1:xaB s zone<0
 ·simp [Qhx,e1,c1,xfg]
 rcases xe0 s zone with hb | ⟨hb1,hb2⟩
 ·omega
 have hi:(xaB s zone).toNat<s.Zones.length:=by omega
 have hx:s.Zones[(xaB s zone).toNat]? = some s.Zones[(xaB s zone).toNat]:=List.getElem?_eq_getElem hi
 have hd:s.Zones.getD (xaB s zone).toNat ⟨[],[]⟩=s.Zones[(xaB s zone).toNat]:=by simp [List.getD,hx]
 have hm:=hz _ (List.getElem_mem hi)
 unfold xfg
 rw [hd,if_neg c1]
 generalize s.Zones[(xaB s zone).toNat]=z at *
 have he:=(xgk hm).2
 have hel:=(xa2 he).1
 have hem:=(xa2 he).2
 simp [-getElem?_pos,Qhx,e1,c1,hx,show 0≤xaB s zone by omega]
 refine xbD z.Entries (fun i=>[.list 4 (z.Entries.map xaF),I i,I zone,I b,.list 2 (s.Zones.map xcx),I s.Lie,.list 21 [],.list 21 ((((z.Entries.take i).filter (xeU b)).map fun e=>xjN s zone e.Label).map xax)]) (by simp) (fun i x hx hi K=>?_) fun K=>?_
 ·have hmx:=hem x (List.mem_of_getElem? hx)
  have hsz:x.Label.size≤33554432:=by unfold xaz at hmx;omega
  have e2:=xtV x.Label (by omega)
  have e3:=xvv s zone x.Label h hsz
  have t:=xht (xeU b) hx
  have hn:((z.Entries.take i).filter (xeU b)).length≤i:=Nat.le_trans (List.length_filter_le _ _) (by simp;omega)
  generalize (z.Entries.take i).filter (xeU b)=acc at *
  by_cases hq:xbe x.Label=b
  ·have hq':xeU b x=true:=by simp [xeU,hq]
   rw [if_pos hq'] at t
   have hbd:((acc.map fun e=>xjN s zone e.Label).map xax).length+1<1073741824:=by simp;omega
   simp only [t,List.map_append,List.map_cons,List.map_nil]
   generalize (acc.map fun e=>xjN s zone e.Label).map xax=A at *
   generalize xjN s zone x.Label=y at *
   simp [-getElem?_pos,Qhx_r0,hx,hi,e2,e3,hq,xal (show i<1000000000000000000 by omega),hbd,xax]
  ·have hq':xeU b x=false:=by simp [xeU,hq]
   rw [hq',if_neg (by simp),List.append_nil] at t
   simp only [t]
   simp [-getElem?_pos,Qhx_r0,hx,hi,e2,hq,xal (show i<1000000000000000000 by omega)]
 ·simp [Qhx_r0]) k
theorem xuS:xaz xc8=0:=rfl
theorem xhE (l:List xav) (s:ByteArray):xbE (xd1 l s)≤l.length:=by
 unfold xd1 xbE
 split
 ·exact Nat.zero_le _
 ·have:=xoh (l.map xd2) (xca l s)
  simpa using this
theorem xia {l:List xav} (hm:∀x∈l,xaz x≤1048576) (i:Nat):xaz (l.getD i xc8)≤1048576:=by
 rw [List.getD_eq_getElem?_getD]
 cases h:l[i]? with
 | none=>exact Nat.zero_le _
 | some x=>exact hm x (List.mem_of_getElem? h)
theorem xok {l:List xav} (hl:l.length≤1048576) (hm:∀x∈l,xaz x≤1048576) (s:ByteArray):xhX (xnv l s)≤4194304:=by
 unfold xnv
 split
 ·exact Nat.zero_le _
 ·simp only [xp5,xhX]
  have z1:xbE zPr=0:=rfl
  have z2:=xuS
  have a1:xaz (if 0<xff l s then l.getD (xff l s-1) xc8 else xc8)≤1048576:=by
   split
   ·exact xia hm _
   ·omega
  have a2:xaz (if xff l s<l.length then l.getD (xff l s) xc8 else xc8)≤1048576:=by
   split
   ·exact xia hm _
   ·omega
  have a3:xbE (if 0<xff l s then xd1 l (l.getD (xff l s-1) xc8).Label else zPr)≤1048576:=by
   split
   ·exact Nat.le_trans (xhE _ _) hl
   ·omega
  have a4:xbE (if xff l s<l.length then xd1 l (l.getD (xff l s) xc8).Label else zPr)≤1048576:=by
   split
   ·exact Nat.le_trans (xhE _ _) hl
   ·omega
  omega
theorem xon {z:xb4} (h:xbZ z≤1048576) (s:ByteArray):xan (xdt z s).Chain≤1048576∧xaz (xdt z s).Entry≤1048576∧xbE (xdt z s).Proof≤1048576∧xhX (xdt z s).Gap≤4194304:=by
 obtain ⟨hc,he⟩:=xks h
 have hl:=(xeO he).1
 have hm:=(xeO he).2
 unfold xdt
 split
 ·split
  ·exact ⟨hc,xia hm _,Nat.le_trans (xhE _ _) hl,Nat.zero_le _⟩
  ·exact ⟨hc,Nat.zero_le _,Nat.zero_le _,xok hl hm s⟩
 ·exact ⟨Nat.zero_le _,Nat.zero_le _,Nat.zero_le _,Nat.zero_le _⟩
theorem mz0:xbn xfT=0:=rfl
theorem xom {s:xaS} (h:xaX s≤1048576) (zone:Int) (label:ByteArray):xbn (xjN s zone label)≤16777216:=by
 obtain ⟨hl,hz⟩:=xiU (show xb7 s.Zones≤1048576 from h)
 unfold xjN
 split
 ·rw [mz0];omega
 ·have hm:xbZ (s.Zones.getD (xaB s zone).toNat ⟨[],[]⟩)≤1048576:=by
   rw [List.getD_eq_getElem?_getD]
   cases h:s.Zones[(xaB s zone).toNat]? with
   | none=>exact Nat.zero_le _
   | some x=>exact hz x (List.mem_of_getElem? h)
  obtain ⟨b1,b2,b3,b4⟩:=xon hm label
  generalize xdt (s.Zones.getD (xaB s zone).toNat ⟨[],[]⟩) label=a at *
  have hA:xbn a≤16777216:=by unfold xbn;omega
  dsimp only
  split
  ·have:xbn { a with Entry:={ a.Entry with Value:=IntKind.i64.wrap (a.Entry.Value+1) } }=xbn a:=rfl
   rw [this];exact hA
  ·split
   ·have h1:=xcH xar a.Chain (a.Chain.length-1)
    have h2:xan (a.Chain.take (a.Chain.length-1))≤xan a.Chain:=by
     show (a.Chain.take (a.Chain.length-1)).length+xbd xar (a.Chain.take (a.Chain.length-1))≤a.Chain.length+xbd xar a.Chain
     rw [List.length_take];omega
    show xan (a.Chain.take (a.Chain.length-1))+(xaz a.Entry+(xbE a.Proof+xhX a.Gap))≤16777216
    omega
   ·split
    ·show xan a.Chain+(xaz xc8+(xbE zPr+xhX xdm))≤16777216
     have:xaz xc8+(xbE zPr+xhX xdm)=0:=rfl
     omega
    ·exact hA
theorem xgq {s:xaS} (h:xaX s≤1048576) (zone b:Int):(xfg s zone b).length≤1048576∧∀x∈xfg s zone b,xbn x≤16777216:=by
 obtain ⟨hl,hz⟩:=xiU (show xb7 s.Zones≤1048576 from h)
 unfold xfg
 split
 ·simp
 ·have hm:xbZ (s.Zones.getD (xaB s zone).toNat ⟨[],[]⟩)≤1048576:=by
   rw [List.getD_eq_getElem?_getD]
   cases h:s.Zones[(xaB s zone).toNat]? with
   | none=>exact Nat.zero_le _
   | some x=>exact hz x (List.mem_of_getElem? h)
  generalize s.Zones.getD (xaB s zone).toNat ⟨[],[]⟩=z at *
  have he:=(xeO (xks hm).2).1
  refine ⟨?_,fun x hx=>?_⟩
  ·rw [List.length_map]
   exact Nat.le_trans (List.length_filter_le _ _) he
  ·obtain ⟨e,_,rfl⟩:=List.mem_map.1 hx
   exact xom h zone e.Label
theorem xsv {α:Type} {l m r s:List α} (h:l.length=m.length):l++r=m++s↔l=m∧r=s :=
 ⟨fun e=>List.append_inj e h,fun ⟨a,b⟩=>by rw [a,b]⟩
theorem xkW {a b:xb1} {r s:List Int}:xa3 a++r=xa3 b++s↔a=b∧r=s:=by
 obtain ⟨l,n⟩:=a
 obtain ⟨m,q⟩:=b
 simp only [xa3,List.cons_append,List.cons.injEq,xb1.mk.injEq]
 constructor
 ·rintro ⟨rfl,h1,h2⟩
  obtain ⟨rfl,rfl⟩:=(xsv (by omega)).1 h2
  exact ⟨⟨rfl,rfl⟩,rfl⟩
 ·rintro ⟨⟨rfl,rfl⟩,rfl⟩;exact ⟨rfl,rfl,rfl⟩
theorem xqN {a b:Bool}:xqO a=xqO b↔a=b:=by cases a<;>cases b<;>simp [xqO]
theorem xgU {a b:xa8}:xa1 a=xa1 b↔a=b:=by
 obtain ⟨a1,a2,a3,a4,a5,a6,a7,a8,a9,a10,a11,a12,a13⟩:=a
 obtain ⟨b1,b2,b3,b4,b5,b6,b7,b8,b9,b10,b11,b12,b13⟩:=b
 simp only [xa1,List.cons_append,List.nil_append,List.cons.injEq,xkW,xqN,xa8.mk.injEq,and_true]
theorem xq1 (a b:xa8) (h:xbB a≤33554432) (h':xbB b≤33554432) (k):call Qkd [.agg (xbt a),.agg (xbt b)] k=k [.bool (decide (a=b))]:=xaa (fun k=>by
 have i1:=xq8 a h
 have i2:=xq8 b h'
 have hl:=xc6 a
 have e:=xsT (xa1 a) (xa1 b) (by omega)
 unfold xbB at h
 have k1:=xmz a.Keys b.Keys (by omega)
 have k2:=xmz a.Heirs b.Heirs (by omega)
 have k3:=xmz a.Judge b.Judge (by omega)
 simp only [Qkd,un,cur0,k1,k2,k3,i1,i2,e,xag,xah,xau,xap,xaj,xaq,true_and,and_true,xgU]
 by_cases hk:a=b
 ·subst hk;simp
 ·simp [hk]) k
theorem xq4 (a b:xa8) (h:xbB a≤33554432) (h':xbB b≤33554432) (k):call Qia [.agg (xbt a),.agg (xbt b)] k=k [.bool (decide (a=b))]:=xaa (fun k=>by
 have i1:=xpL a h
 have i2:=xpL b h'
 have hl:=xc6 a
 have e:=xs0 (xa1 a) (xa1 b) (by omega)
 simp only [Qia,un,cur0,i1,i2,e,xag,xah,xer,xau,xap,xaj,xaq,true_and,and_true,xgU]
 by_cases hk:a=b
 ·subst hk;simp
 ·simp [hk]) k
abbrev sigs (l:List xfP):PV:=.list 2 (l.map xcp)
theorem xu5 (l m:List xfP) (h:l.length<1073741824) (k):call Qki [.one (sigs l),.one (sigs m)] k=k [.bool (decide (l=m))]:=xaa (fun k=>by
 simp [Qki]
 by_cases hl:l.length=m.length
 ·rw [←xe5]
  simp [hl]
  refine xgy k l m (fun i=>[sigs l,sigs m,.bool false,I m.length,I i]) eqD rfl hl (fun i x y hx hy hi hj K=>?_) fun K=>?_
  ·obtain ⟨a,b⟩:=x
   obtain ⟨c,d⟩:=y
   simp [-getElem?_pos,Qki_r0,hx,hy,hj,xal (show i<1000000000000000000 by omega),xsx,sames,PV.same,xet,xjZ]
  ·simp [Qki_r0,hl]
 ·simp [show ¬(l.length:Int)=m.length by omega,xjg hl]) k
theorem xu4 (a b:xaf) (h:xar a≤33554432) (h':xar b≤33554432) (k):call Qkj [.agg (xam a),.agg (xam b)] k=k [.bool (decide (a=b))]:=xaa (fun k=>by
 unfold xar at h h'
 have e1:=xq1 a.Head b.Head (by omega) (by omega)
 have e2:=xu5 a.Sigs b.Sigs (by omega)
 obtain ⟨x,l⟩:=a
 obtain ⟨y,m⟩:=b
 simp only at e1 e2
 simp only [Qkj,un,cur0,e1,e2,xag,xah,xau,xap,xaj,xaq,true_and,and_true,xaf.mk.injEq,Bool.decide_and]
 by_cases hk:x=y<;>simp [hk]) k
theorem xvl (a b:xaf) (h:xar a≤33554432) (h':xar b≤33554432) (k):call Qiq [.agg (xam a),.agg (xam b)] k=k [.bool (decide (a=b))]:=xaa (fun k=>by
 unfold xar at h h'
 have e1:=xq4 a.Head b.Head (by omega) (by omega)
 obtain ⟨x,l⟩:=a
 obtain ⟨y,m⟩:=b
 simp only at e1 h h'
 simp only [Qiq,un,cur0,e1,xag,xah,xau,xap,xaj,xaq,true_and,and_true,xaf.mk.injEq,Bool.decide_and]
 by_cases hk:x=y
 ·subst hk
  simp
  by_cases hl:l.length=m.length
  ·rw [←xe5]
   simp [hl]
   refine xgy k l m (fun i=>[.bool false,I i]++xbt x++[sigs m]++xbt x++[sigs l]) eqD rfl hl (fun i x y hx hy hi hj K=>?_) fun K=>?_
   ·obtain ⟨a,b⟩:=x
    obtain ⟨c,d⟩:=y
    simp [-getElem?_pos,Qiq_r0,hx,hy,hi,xal (show i<1000000000000000000 by omega),xsx,sames,PV.same,xet,xjZ]
   ·simp [Qiq_r0,hl]
  ·simp [show ¬(l.length:Int)=m.length by omega,xjg hl]
 ·simp [hk]) k
theorem xvq (l m:List ByteArray) (h:l.length+xbd ByteArray.size l≤33554432) (h':m.length+xbd ByteArray.size m≤33554432) (k):call Qii [.one (.list 1 (l.map rS)),.one (.list 1 (m.map rS))] k=k [.bool (decide (l=m))]:=xaa (fun k=>by
 simp [Qii]
 by_cases hl:l.length=m.length
 ·rw [←xe5]
  simp [hl]
  refine xgy k l m (fun i=>[.list 1 (l.map rS),.list 1 (m.map rS),.bool false,I i]) eqD rfl hl (fun i x y hx hy hi hj K=>?_) fun K=>?_
  ·have s1:=xaZ (s:=ByteArray.size) (xba hx)
   have s2:=xaZ (s:=ByteArray.size) (xba hy)
   simp [-getElem?_pos,Qii_r0,hx,hy,hi,xal (show i<1000000000000000000 by omega)]
   all_goals (by_cases hxy:x=y<;>simp [hxy])
  ·simp [Qii_r0]
 ·simp [show ¬(l.length:Int)=m.length by omega,xjg hl]) k
theorem xvb (l m:List ByteArray) (h:l.length<1073741824) (k):call Qjq [.one (strs l),.one (strs m)] k=k [.bool (decide (l=m))]:=xaa (fun k=>by
 simp [Qjq]
 by_cases hl:l.length=m.length
 ·rw [←xe5]
  simp [hl]
  refine xgy k l m (fun i=>[strs l,strs m,.bool false,I m.length,I i]) eqD rfl hl (fun i x y hx hy hi hj K=>?_) fun K=>?_
  ·simp [-getElem?_pos,Qjq_r0,hx,hy,hj,xal (show i<1000000000000000000 by omega)]
   all_goals (by_cases hxy:x=y<;>simp [hxy])
  ·simp [Qjq_r0,hl]
 ·simp [show ¬(l.length:Int)=m.length by omega,xjg hl]) k
theorem xsH (a b:xav) (h:xaz a≤33554432) (h':xaz b≤33554432) (k):call Qjr [.agg (xaF a),.agg (xaF b)] k=k [.bool (decide (a=b))]:=xaa (fun k=>by
 unfold xaz at h h'
 obtain ⟨a1,a2,a3,l⟩:=a
 obtain ⟨b1,b2,b3,m⟩:=b
 simp only at h h'
 have e:=xvb l m (by omega)
 simp [Qjr,e]
 by_cases h1:a1=b1<;>by_cases h2:a2=b2<;>by_cases h3:a3=b3<;>simp [h1,h2,h3]) k
theorem xsL (a b:xav) (h:xaz a≤33554432) (h':xaz b≤33554432) (k):call Qij [.agg (xaF a),.agg (xaF b)] k=k [.bool (decide (a=b))]:=xaa (fun k=>by
 unfold xaz at h h'
 obtain ⟨a1,a2,a3,l⟩:=a
 obtain ⟨b1,b2,b3,m⟩:=b
 simp only at h h'
 have e:=xvq l m (by omega) (by omega)
 simp [Qij,e]
 by_cases h1:a1=b1<;>by_cases h2:a2=b2<;>by_cases h3:a3=b3<;>simp [h1,h2,h3]) k
theorem xsG (a b:xcy) (h:xbE a≤33554432) (h':xbE b≤33554432) (k):call Qjs [.agg (xc7 a),.agg (xc7 b)] k=k [.bool (decide (a=b))]:=xaa (fun k=>by
 unfold xbE at h h'
 obtain ⟨a1,l⟩:=a
 obtain ⟨b1,m⟩:=b
 simp only at h h'
 have e:=xsT l m (by omega)
 simp [Qjs,e]
 by_cases h1:a1=b1<;>simp [h1]) k
theorem xva (a b:xkr) (h:xhX a≤33554432) (h':xhX b≤33554432) (k):call Qjt [.agg (xnb a),.agg (xnb b)] k=k [.bool (decide (a=b))]:=xaa (fun k=>by
 unfold xhX at h h'
 obtain ⟨a1,a2,a3,a4,a5⟩:=a
 obtain ⟨b1,b2,b3,b4,b5⟩:=b
 simp only at h h'
 have e2:=xsH a2 b2 (by omega) (by omega)
 have e3:=xsH a3 b3 (by omega) (by omega)
 have e4:=xsG a4 b4 (by omega) (by omega)
 have e5:=xsG a5 b5 (by omega) (by omega)
 simp [Qjt,e2,e3,e4,e5]
 by_cases h1:a1=b1<;>by_cases h2:a2=b2<;>by_cases h3:a3=b3<;>by_cases h4:a4=b4<;>simp [h1,h2,h3,h4]) k
theorem xsK (a b:xcy) (h:xbE a≤33554432) (h':xbE b≤33554432) (k):call Qik [.agg (xc7 a),.agg (xc7 b)] k=k [.bool (decide (a=b))]:=xaa (fun k=>by
 unfold xbE at h h'
 obtain ⟨a1,l⟩:=a
 obtain ⟨b1,m⟩:=b
 simp only at h h'
 have e:=xs0 l m (by omega)
 simp [Qik,e]
 by_cases h1:a1=b1<;>simp [h1]) k
theorem xvp (a b:xkr) (h:xhX a≤33554432) (h':xhX b≤33554432) (k):call Qil [.agg (xnb a),.agg (xnb b)] k=k [.bool (decide (a=b))]:=xaa (fun k=>by
 unfold xhX at h h'
 obtain ⟨a1,a2,a3,a4,a5⟩:=a
 obtain ⟨b1,b2,b3,b4,b5⟩:=b
 simp only at h h'
 have e2:=xsL a2 b2 (by omega) (by omega)
 have e3:=xsL a3 b3 (by omega) (by omega)
 have e4:=xsK a4 b4 (by omega) (by omega)
 have e5:=xsK a5 b5 (by omega) (by omega)
 simp [Qil,e2,e3,e4,e5]
 by_cases h1:a1=b1<;>by_cases h2:a2=b2<;>by_cases h3:a3=b3<;>by_cases h4:a4=b4<;>simp [h1,h2,h3,h4]) k
def xr7 (m:List xaf) (i:Nat) (x:xaf):Bool:=match m[i]? with | some y=>!decide (x.Head=y.Head) | none=>true
def xix (l m:List xaf):Bool:=decide (l.length≤m.length)&&(xeV (xr7 m) 0 l==false)
theorem xhf {l:List xaf} {x:xaf} (h:xan l≤33554432) (hx:x∈l):xbB x.Head≤33554432:=by
 unfold xan at h
 have:=xaZ (s:=xar) hx
 have e:xar x=xbB x.Head+x.Sigs.length:=rfl
 omega
theorem xmY {l:List xaf} (h:xan l≤33554432):l.length≤33554432:=by unfold xan at h;omega
theorem xve (l:List xaf) (h:xan l≤33554432) (k):call Qjm [.one (.list 17 (l.map xam))] k=k (xd6 (xdr l)):=xaa (fun k=>by
 obtain ⟨hl,hx0⟩:=xbT h
 have e:=xn0 l h
 unfold xdr
 cases hc:xaO l with
 | false=>simp [Qjm,e,hc,xd6,xdY,ints]
 | true =>
  obtain ⟨p,hp,h0⟩:=xeS hc
  have e2:=xsR l p hl hp
  have e3:=xua p.Head (xa4 (hx0 p (xba hp))).1
  simp [-getElem?_pos,Qjm,e,hc,e2,e3,xd6,hp]) k
def sTF:Nat→Int→Nat→Nat→List Int→Option Int
 | 0,_,_,_,_=>none
 | f+1,leaf,i,n,path=>if 1<n then
  (if i % 2=1∨i+1<n then (match path with | []=>none | p::r=>sTF f (if i % 2=1 then xhF p leaf else xhF leaf p) (i / 2) ((n+1) / 2) r)
   else sTF f leaf (i / 2) ((n+1) / 2) path)
  else (match path with | []=>some leaf | _::_=>none)
def xiF:Option Int→List PV
 | some t=>[I t,.bool true]
 | none=>[I 0,.bool false]
theorem tmod2 (i:Nat):(i:Int).tmod 2=((i % 2:Nat):Int):=(Int.ofNat_tmod i 2).symm
theorem wdiv2 (i:Nat) (h:i<1000):IntKind.i64.wrap ((i:Int).tdiv 2)=((i / 2:Nat):Int):=by
 rw [show (i:Int).tdiv 2=((i / 2:Nat):Int) from (Int.ofNat_tdiv i 2).symm]
 exact xbV (by omega) (by omega)
theorem wsucc (i:Nat) (h:i<1000):IntKind.i64.wrap ((i:Int)+1)=((i+1:Nat):Int):=by rw [xbV (by omega) (by omega)];omega
theorem xl0 (i:Nat):decide (((i % 2:Nat):Int)=1)=decide (i % 2=1):=by apply decide_eq_decide.2;omega
theorem xqj (i:Nat):decide (((i % 2:Nat):Int)=0)=!decide (i % 2=1):=by
 by_cases h:i % 2=1
 ·simp [h]
 ·have:i % 2=0:=by omega
  simp [this]
theorem xgn (k:List PV→Prop) (path:List Int) (hp:path.length≤33554432):∀(f:Nat) (leaf:Int) (i n used:Nat),n<f→n≤12→i≤12→used≤path.length →
 (lp (fun L w=>Qig_r0 w L (k [I 0,.bool false]) fun q40 q41 q42 q43 q44 q45 q46=>xaK q43 fun r47=>xac .neq q46 r47 fun r48=>xad r48 (k [I 0,.bool false]) (rt [.sc,.sc] [q40,.bool true] k)) [I leaf,I i,I n,ints path,I 0,.bool false,I used]↔k (xiF (sTF f leaf i n (path.drop used))))
 | 0,_,_,_,_,h,_,_,_=>by omega
 | f+1,leaf,i,n,used,h,hn,hi,hu=>by
  unfold sTF
  by_cases h1:1<n
  ·rw [if_pos h1]
   by_cases hc:i % 2=1∨i+1<n
   ·rw [if_pos hc]
    by_cases he:used=path.length
    ·rw [List.drop_of_length_le (by omega)]
     refine xaP fun K=>?_
     subst he
     simp only [Qig_r0,un,cur0,xbp,xcq,xaI,xb8,xbb,xao,xec,tmod2,xl0,wsucc i (by omega),xay,List.length_map,xah,show decide ((1:Int)<n)=true by simp;omega,if_true]
     rcases hc with hc | hc
     ·simp [hc,xiF]
     ·by_cases ho:i % 2=1
      ·simp [ho,xiF]
      ·simp [ho,show ((i+1:Nat):Int)<n by omega,xiF]
       intro h;omega
    ·obtain ⟨p,hx⟩:∃p,path[used]? = some p:=⟨path[used],List.getElem?_eq_getElem (by omega)⟩
     have hd:path.drop used=p::path.drop (used+1):=by
      rw [List.drop_eq_getElem_cons (by omega)]
      congr 1
      rw [List.getElem?_eq_getElem (by omega)] at hx
      injection hx
     rw [hd]
     simp only
     refine (xch fun K=>?_).trans (xgn k path hp f (if i % 2=1 then xhF p leaf else xhF leaf p) (i / 2) ((n+1) / 2) (used+1) (by omega) (by omega) (by omega) (by omega))
     simp only [Qig_r0,un,cur0,xbp,xcq,xgh,xaI,xb8,xbb,xao,xec,tmod2,xl0,wsucc i (by omega),wsucc n (by omega),wdiv2 i (by omega),wdiv2 (n+1) (by omega),xal (show used<1000000000000000000 by omega),xay,List.length_map,xah,show decide ((1:Int)<n)=true by simp;omega,show decide (((path.length:Nat):Int)≤used)=false by simp;omega,if_true,xai,Int.toNat_natCast,List.getElem?_map,hx,Option.map_some,show (0:Int)≤used by omega,true_and,xag,xuf]
     by_cases ho:i % 2=1
     ·simp [ho]
     ·rcases hc with hc | hc
      ·exact absurd hc ho
      ·simp [ho,show ((i+1:Nat):Int)<n by omega]
       omega
   ·rw [if_neg hc]
    refine (xch fun K=>?_).trans (xgn k path hp f leaf (i / 2) ((n+1) / 2) used (by omega) (by omega) (by omega) hu)
    simp only [Qig_r0,un,cur0,xbp,xcq,xgh,xaI,xb8,xbb,xao,xec,tmod2,xl0,wsucc i (by omega),wsucc n (by omega),wdiv2 i (by omega),wdiv2 (n+1) (by omega),xay,List.length_map,xah,show decide ((1:Int)<n)=true by simp;omega,if_true]
    have ho:¬i % 2=1:=fun h=>hc (.inl h)
    have hl:¬((i+1:Nat):Int)<n:=by intro h;exact hc (.inr (by omega))
    simp only [ho,hl,decide_false,Bool.false_eq_true,if_false]
    simp
  ·rw [if_neg h1]
   refine xaP fun K=>?_
   simp only [Qig_r0,un,cur0,xbp,xbU,bne,xec,xay,List.length_map,xah,show decide ((1:Int)<n)=false by simp;omega,Bool.false_eq_true,if_false,xau,xap,xaj,xas,xaq,true_and,and_true]
   by_cases he:used=path.length
   ·rw [List.drop_of_length_le (by omega)]
    simp [he,xiF]
   ·rw [List.drop_eq_getElem_cons (by omega)]
    simp [show ¬(used:Int)=path.length by omega,xiF]
def xeg (leaf at_ count:Int) (path:List Int):Option Int:=if (inR count 1 12&&inR at_ 0 (count-1))=true then sTF 13 leaf at_.toNat count.toNat path else none
theorem xvr (leaf at_ count:Int) (path:List Int) (hp:path.length≤33554432) (k):call Qig [.one (I leaf),.one (I at_),.one (I count),.one (ints path)] k=k (xiF (xeg leaf at_ count path)):=xaa (fun k=>by
 unfold xeg
 cases h1:inR count 1 12 with
 | false=>simp [Qig,xey,h1,xiF]
 | true =>
  have b1:1≤count∧count≤12:=by unfold inR at h1;simpa using h1
  have w:IntKind.i64.wrap (count-1)=count-1:=xbV (by omega) (by omega)
  cases h2:inR at_ 0 (count-1) with
  | false=>simp [Qig,xey,h1,w,h2,xiF]
  | true =>
   have b2:0≤at_∧at_≤count-1:=by unfold inR at h2;simpa using h2
   have e:=xgn k path hp 13 leaf at_.toNat count.toNat 0 (by omega) (by omega) (by omega) (by omega)
   rw [show ((at_.toNat:Nat):Int)=at_ by omega,show ((count.toNat:Nat):Int)=count by omega] at e
   simp only [Bool.and_self,if_true,List.drop_zero] at e ⊢
   rw [←e]
   simp only [Qig,xey,h1,h2,w,xbu,xbg,xag,xah,Bool.not_true,Bool.false_eq_true,if_false,xau,xap,xaj,xas,xaq,true_and]
   exact Iff.rfl) k
theorem xor1:∀i:Nat,i<13→IntKind.i64.wrap ((BitVec.ofInt IntKind.i64.bits (i:Int) ^^^ BitVec.ofInt IntKind.i64.bits 1).toNat:Int)=if i % 2=1 then (i:Int)-1 else (i:Int)+1:=by decide +kernel
theorem xgC (k:List PV→Prop):∀(f:Nat) (leaf:Int) (i n:Nat) (path:List Int),n<f→n≤12→i<n∨n≤1→i≤12→path.length≤33554432 →
 (lp (fun L w=>Qjo_r0 w L (k [I 0,.bool false]) fun q24 q25 q26 q27 q28 q29=>xaK q27 fun r30=>xac .gtr r30 (I 0) fun r31=>xad r31 (k [I 0,.bool false]) (rt [.sc,.sc] [q24,.bool true] k)) [I leaf,I i,I n,ints path,I 0,.bool false]↔k (xiF (sTF f leaf i n path)))
 | 0,_,_,_,_,h,_,_,_,_=>by omega
 | f+1,leaf,i,n,path,h,hn,hin,hi,hp=>by
  unfold sTF
  by_cases h1:1<n
  ·rw [if_pos h1]
   have hx:decide ((n:Int)≤if i % 2=1 then (i:Int)-1 else (i:Int)+1)=!decide (i % 2=1∨i+1<n):=by
    by_cases ho:i % 2=1
    ·rw [if_pos ho];simp [ho];omega
    ·rw [if_neg ho]
     by_cases hl:i+1<n
     ·simp [ho,hl];omega
     ·simp [ho,hl];omega
   by_cases hc:i % 2=1∨i+1<n
   ·rw [if_pos hc]
    match path with
    | [] =>
     refine xaP fun K=>?_
     simp only [Qjo_r0,un,cur0,xbp,xgg,xor1 i (by omega),xb8,hx,hc,decide_true,Bool.not_true,Bool.false_eq_true,if_false,xay,List.length_map,List.length_nil,xaI,xec,xah,show decide ((1:Int)<n)=true by simp;omega,if_true]
     simp [xiF]
    | p::r =>
     simp only
     refine (xch fun K=>?_).trans (xgC k f (if i % 2=1 then xhF p leaf else xhF leaf p) (i / 2) ((n+1) / 2) r (by omega) (by omega) (by omega) (by omega) (by simp at hp;omega))
     simp only [Qjo_r0,un,cur0,xbp,xgg,xor1 i (by omega),xb8,hx,hc,decide_true,Bool.not_true,Bool.false_eq_true,if_false,xay,List.length_map,List.length_cons,xaI,xcq,xgh,xbb,xec,tmod2,xqj,wsucc n (by omega),wdiv2 i (by omega),wdiv2 (n+1) (by omega),xah,show decide ((1:Int)<n)=true by simp;omega,if_true,show decide (((r.length+1:Nat):Int)=0)=false by simp;omega,ints,List.map_cons,xai,show ((0:Int)).toNat=0 from rfl,List.getElem?_cons_zero,show (0:Int)≤0 by omega,true_and,xag,xt2,xlZ,xkg]
     by_cases ho:i % 2=1<;>simp [ho,List.take_of_length_le]
   ·rw [if_neg hc]
    refine (xch fun K=>?_).trans (xgC k f leaf (i / 2) ((n+1) / 2) path (by omega) (by omega) (by omega) (by omega) hp)
    simp only [Qjo_r0,un,cur0,xbp,xgg,xor1 i (by omega),xb8,hx,hc,decide_false,Bool.not_false,if_true,xay,List.length_map,xgh,xbb,wsucc n (by omega),wdiv2 i (by omega),wdiv2 (n+1) (by omega),xah,show decide ((1:Int)<n)=true by simp;omega]
    simp
  ·rw [if_neg h1]
   refine xaP fun K=>?_
   simp only [Qjo_r0,un,cur0,xbp,xay,List.length_map,xah,show decide ((1:Int)<n)=false by simp;omega,Bool.false_eq_true,if_false,xau,xap,xaj,xas,xaq,true_and,and_true]
   match path with
   | []=>simp [xiF]
   | p::r=>simp [xiF]
theorem xvc (leaf at_ count:Int) (path:List Int) (hp:path.length≤33554432) (k):call Qjo [.one (I leaf),.one (I at_),.one (I count),.one (ints path)] k=k (xiF (xeg leaf at_ count path)):=xaa (fun k=>by
 unfold xeg
 by_cases c1:count<1
 ·have:inR count 1 12=false:=by unfold inR;simp;omega
  simp [Qjo,c1,this,xiF]
 by_cases c2:12<count
 ·have:inR count 1 12=false:=by unfold inR;simp;omega
  simp [Qjo,c1,c2,this,xiF]
 have h1:inR count 1 12=true:=by unfold inR;simp;omega
 have w:IntKind.i64.wrap (count-1)=count-1:=xbV (by omega) (by omega)
 cases h2:inR at_ 0 (count-1) with
 | false=>simp [Qjo,xdC,c1,c2,w,h2,xiF]
 | true =>
  have b2:0≤at_∧at_≤count-1:=by unfold inR at h2;simpa using h2
  have e:=xgC k 13 leaf at_.toNat count.toNat path (by omega) (by omega) (by omega) (by omega) hp
  rw [show ((at_.toNat:Nat):Int)=at_ by omega,show ((count.toNat:Nat):Int)=count by omega] at e
  simp only [h1,Bool.and_self,if_true]
  rw [←e]
  simp only [Qjo,xdC,xao,xbp,h2,w,xbu,xbg,xag,xah,c1,c2,decide_false,Bool.not_true,Bool.false_eq_true,if_false,xau,xap,xaj,xas,xaq,true_and]) k
def xc1:xav:=⟨⟨#[]⟩,0,0,[]⟩
def xfS:xcy:=⟨0,[]⟩
def xtb:xkr:=⟨0,xc1,xc1,xfS,xfS⟩
def xhD (e:xav) (p:xcy):Bool:=decide (e=xc1)&&decide (p=xfS)
def xa9 (root count:Int) (e:xav) (p:xcy):Bool:=xcz e&&(match xeg (xd2 e) p.At count p.Path with | some t=>decide (xds [231,count,t]=root) | none=>false)
theorem xtR (root count:Int) (e:xav) (p:xcy) (h:xaz e≤33554432) (hp:xbE p≤33554432) (k):call Qjp [.one (I root),.one (I count),.agg (xaF e),.agg (xc7 p)] k=k [.bool (xa9 root count e p)]:=xaa (fun k=>by
 unfold xbE at hp
 have e1:=xt4 e h
 have e2:=xt6 e h
 have e3:=xvc (xd2 e) p.At count p.Path hp
 have e1':∀k,call Qgd [.agg (xaF e)] k=k [I (xd2 e)]:=e1
 unfold xa9
 cases ht:xeg (xd2 e) p.At count p.Path with
 | none =>
  rw [ht] at e3
  simp only [Qjp,un,cur0,e1',e2,e3,xiF,xag,xbq,xah,xau,xap,xaj,xaq,true_and]
  cases xcz e<;>simp
 | some t =>
  rw [ht] at e3
  simp only [Qjp,un,cur0,e1',e2,e3,xiF,xag,xbq,xt0,xaI,xec,xah,xau,xap,xaj,xaq,true_and]
  cases xcz e<;>simp) k
theorem xsM (root count:Int) (e:xav) (p:xcy) (h:xaz e≤33554432) (hp:xbE p≤33554432) (k):call Qih [.one (I root),.one (I count),.agg (xaF e),.agg (xc7 p)] k=k [.bool (xa9 root count e p)]:=xaa (fun k=>by
 unfold xbE at hp
 have e1:=xuh e h
 have e2:=xuj e h
 have e3:=xvr (xd2 e) p.At count p.Path hp
 have e1':∀k,call Qde [.agg (xaF e)] k=k [I (xd2 e)]:=e1
 unfold xa9
 cases ht:xeg (xd2 e) p.At count p.Path with
 | none =>
  rw [ht] at e3
  simp only [Qih,un,cur0,e1',e2,e3,xiF,xag,xbq,xah,xau,xap,xaj,xaq,true_and]
  cases xcz e<;>simp
 | some t =>
  rw [ht] at e3
  simp only [Qih,un,cur0,e1',e2,e3,xiF,xag,xbq,xud,xaI,xec,xah,xau,xap,xaj,xaq,true_and]
  cases xcz e<;>simp) k
theorem mz:xaz xc1≤33554432∧xbE xfS≤33554432∧xhX xtb≤33554432:=by decide
theorem xsJ (e:xav) (p:xcy) (h:xaz e≤33554432) (hp:xbE p≤33554432) (k):call Qim [.agg (xaF e),.agg (xc7 p)] k=k [.bool (xhD e p)]:=xaa (fun k=>by
 have e1:=xsL e xc1 h mz.1
 have e2:=xsK p xfS hp mz.2.1
 simp only [Qim,un,cur0]
 rw [show [PV.str ⟨#[]⟩,I 0,I 0,PV.list 1 []]=xaF xc1 from rfl,show [I 0,PV.list 1 []]=xc7 xfS from rfl]
 simp only [e1,e2,xag,xah,xau,xap,xaj,xaq,true_and]
 exact xb9 fun _=>Iff.rfl) k
theorem xtQ (e:xav) (h:xaz e≤33554432) (k):call Qju [.agg (xaF e)] k=k [.bool (decide (e=xc1))]:=xaa (fun k=>by
 have e1:=xsH e xc1 h mz.1
 simp only [Qju,un,cur0]
 rw [show [PV.str ⟨#[]⟩,I 0,I 0,PV.list 1 []]=xaF xc1 from rfl]
 simp only [e1,xag,xau,xap,xaj,xaq,true_and]) k
theorem xtP (p:xcy) (hp:xbE p≤33554432) (k):call Qjv [.agg (xc7 p)] k=k [.bool (decide (p=xfS))]:=xaa (fun k=>by
 have e1:=xsG p xfS hp mz.2.1
 simp only [Qjv,un,cur0]
 rw [show [I 0,PV.list 1 []]=xc7 xfS from rfl]
 simp only [e1,xag,xau,xap,xaj,xaq,true_and]) k
def xoj (root count:Int) (label:ByteArray) (g:xkr):Bool:=if decide (g.At=0)=true then xhD g.Before g.Left else xa9 root count g.Before g.Left&&(decide (g.Left.At=g.At-1)&&decide (xeQ g.Before.Label label=-1))
def xkB (root count:Int) (label:ByteArray) (g:xkr):Bool:=if decide (g.At=count)=true then xhD g.After g.Right else xa9 root count g.After g.Right&&(decide (g.Right.At=g.At)&&decide (xeQ g.After.Label label=1))
def xr5 (root count:Int) (label:ByteArray) (g:xkr):Bool:=xcs label&&(inR g.At 0 count&&(!(decide (count=0)&&!decide (root=xiD []))&&(xoj root count label g&&xkB root count label g)))
theorem xrz {g:xkr} (h:xhX g≤33554432):xaz g.Before≤33554432∧xaz g.After≤33554432∧xbE g.Left≤33554432∧xbE g.Right≤33554432:=by unfold xhX at h;omega
theorem xvo (root count:Int) (label:ByteArray) (g:xkr) (hc:count≤12) (hl:label.size≤33554432) (h:xhX g≤33554432) (k):call Qin [.one (I root),.one (I count),.one (.str label),.agg (xnb g)] k=k [.bool (xr5 root count label g)]:=xaa (fun k=>by
 obtain ⟨g1,g2,g3,g4⟩:=xrz h
 have e1:=xpK label hl
 have e2:=xsJ g.Before g.Left g1 g3
 have e3:=xsJ g.After g.Right g2 g4
 have e4:=xsM root count g.Before g.Left g1 g3
 have e5:=xsM root count g.After g.Right g2 g4
 have e6:∀k,call Qdk [.one (.list 4 [])] k=k [I (xiD [])]:=xuc [] (by decide)
 unfold xr5
 cases hb:xcs label with
 | false=>simp [Qin,e1,hb]
 | true =>
  cases hr:inR g.At 0 count with
  | false=>simp [Qin,e1,hb,xey,hr]
  | true =>
   have hr':0≤g.At∧g.At≤count:=by unfold inR at hr;simpa using hr
   have hup:(if decide (g.At=count)=true then k [.bool (xhD g.After g.Right)] else if xa9 root count g.After g.Right=true then if decide (g.Right.At=g.At)=true then k [.bool (decide (xeQ g.After.Label label=1))] else k [.bool false] else k [.bool false])↔k [.bool (xkB root count label g)]:=by
    unfold xkB
    cases decide (g.At=count)<;>cases xa9 root count g.After g.Right<;>cases decide (g.Right.At=g.At)<;>simp
   have hw3:IntKind.i64.wrap (g.At-1)=g.At-1:=xbV (by omega) (by omega)
   simp only [Qin,un,cur0,e1,hb,xey,hr,e2,e3,e4,e5,e6,xrc,xbg,xaI,xbU,xbu,bne,xec,hw3,xag,xah,xau,xap,xaj,xaq,true_and,Bool.not_true,Bool.false_eq_true,if_false,show (0:Nat)≤16777216 by omega,Bool.true_and,propext hup]
   unfold xoj
   generalize xkB root count label g=u
   cases decide (count=0)<;>cases decide (root=xiD [])<;>cases decide (g.At=0)<;>cases xhD g.Before g.Left<;>cases xa9 root count g.Before g.Left<;>cases decide (g.Left.At=g.At-1)<;>cases decide (xeQ g.Before.Label label=-1)<;>simp) k
def sNb (root count:Int) (e:xav) (p:xcy) (at_:Int):Bool:=if inR at_ 0 (count-1)=true then xa9 root count e p&&decide (p.At=at_) else xhD e p
theorem xtO (root count:Int) (e:xav) (p:xcy) (at_:Int) (hc:0≤count∧count≤12) (h:xaz e≤33554432) (hp:xbE p≤33554432) (k):call Qjw [.one (I root),.one (I count),.agg (xaF e),.agg (xc7 p),.one (I at_)] k=k [.bool (sNb root count e p at_)]:=xaa (fun k=>by
 have e1:=xtR root count e p h hp
 have e2:=xtQ e h
 have e3:=xtP p hp
 have w:IntKind.i64.wrap (count-1)=count-1:=xbV (by omega) (by omega)
 simp only [Qjw,un,cur0,e1,e2,e3,xbu,w,xdC,xbg,xaI,xec,xag,xah,xau,xap,xaj,xaq,true_and]
 unfold sNb xhD
 cases inR at_ 0 (count-1)<;>cases decide (e=xc1)<;>cases xa9 root count e p<;>simp) k
theorem xu9 (root count:Int) (label:ByteArray) (g:xkr) (hc:0≤count∧count≤12) (hl:label.size≤33554432) (h:xhX g≤33554432) (k):call Qjx [.one (I root),.one (I count),.one (.str label),.agg (xnb g)] k=k [.bool (xr5 root count label g)]:=xaa (fun k=>by
 obtain ⟨g1,g2,g3,g4⟩:=xrz h
 have e1:=xpJ label hl
 have e4:=xtO root count g.Before g.Left (g.At-1) hc g1 g3
 have e5:=xtO root count g.After g.Right g.At hc g2 g4
 have e6:∀k,call Qgk [.one (.list 4 [])] k=k [I (xiD [])]:=xtZ [] (by decide)
 unfold xr5
 cases hb:xcs label with
 | false=>simp [Qjx,e1,hb]
 | true =>
  cases hr:inR g.At 0 count with
  | false=>simp [Qjx,e1,hb,xdC,hr]
  | true =>
   have hr':0≤g.At∧g.At≤count:=by unfold inR at hr;simpa using hr
   have hw3:IntKind.i64.wrap (g.At-1)=g.At-1:=xbV (by omega) (by omega)
   have n1:inR (g.At-1) 0 (count-1)=!decide (g.At=0):=by
    unfold inR;by_cases h0:g.At=0
    ·simp [h0]
    ·simp [h0];omega
   have n2:inR g.At 0 (count-1)=!decide (g.At=count):=by
    unfold inR;by_cases h0:g.At=count
    ·simp [h0];try (intro _;omega)
    ·simp [h0];omega
   have c1:decide (xeQ g.Before.Label label<0)=decide (xeQ g.Before.Label label=-1):=by
    rcases xea g.Before.Label.data.toList label.data.toList with h | h | h<;>simp [xeQ,h]
   have c2:decide (0<xeQ g.After.Label label)=decide (xeQ g.After.Label label=1):=by
    rcases xea g.After.Label.data.toList label.data.toList with h | h | h<;>simp [xeQ,h]
   simp only [Qjx,un,cur0,e1,hb,xdC,hr,e4,e5,e6,xq7,xbg,xaI,xbU,xbu,xao,xbp,bne,xec,hw3,c1,c2,xag,xah,xau,xap,xaj,xaq,true_and,Bool.not_true,Bool.false_eq_true,if_false,Bool.true_and]
   unfold sNb xoj xkB
   rw [n1,n2]
   cases decide (count=0)<;>cases decide (root=xiD [])<;>cases decide (g.At=0)<;>cases decide (g.At=count)<;>cases xhD g.Before g.Left<;>cases xhD g.After g.Right<;>cases xa9 root count g.Before g.Left<;>cases xa9 root count g.After g.Right<;>cases decide (g.Left.At=g.At-1)<;>cases decide (g.Right.At=g.At)<;>cases decide (xeQ g.Before.Label label=-1)<;>simp) k
def xfz (p:xa8) (label:ByteArray) (a:xaJ):Bool:=if a.Found=true then (if decide (a.Entry.Label=label)=true then xa9 p.Root p.Count a.Entry a.Proof&&decide (a.Gap=xtb) else false) else xr5 p.Root p.Count label a.Gap&&xhD a.Entry a.Proof
theorem xbO {a:xaJ} (h:xbn a≤33554432):xan a.Chain≤33554432∧xaz a.Entry≤33554432∧xbE a.Proof≤33554432∧xhX a.Gap≤33554432:=by unfold xbn at h;omega
def xn4 (zone:Int) (label:ByteArray) (a:xaJ) (now:Int):Int:=match xdr a.Chain with
 | none=>3
 | some p=>if decide (p.Zone=zone)=false then 2 else if inR now p.Time p.Until=false then 4 else if p.Frozen=true then 5 else if xfz p label a=false then 6 else 1
theorem xvd (p:xa8) (now:Int) (k):call Qjn [.agg (xbt p),.one (I now)] k=k [.bool (inR now p.Time p.Until)]:=xaa (fun k=>by
 simp only [Qjn,un,cur0,xdC,xag,xau,xap,xaj,xaq,true_and]) k
theorem xu8 (p:xa8) (label:ByteArray) (a:xaJ) (hc:0≤p.Count∧p.Count≤12) (hl:label.size≤33554432) (h:xbn a≤33554432) (k):call Qjy [.agg (xbt p),.one (.str label),.agg (xax a)] k=k [.bool (xfz p label a)]:=xaa (fun k=>by
 obtain ⟨h1,h2,h3,h4⟩:=xbO h
 have e1:=xtR p.Root p.Count a.Entry a.Proof h2 h3
 have e2:=xva a.Gap xtb h4 mz.2.2
 have e3:=xu9 p.Root p.Count label a.Gap hc hl h4
 have e4:=xtQ a.Entry h2
 have e5:=xtP a.Proof h3
 simp only [Qjy,un,cur0]
 rw [show [I 0,PV.str ⟨#[]⟩,I 0,I 0,PV.list 1 [],PV.str ⟨#[]⟩,I 0,I 0,PV.list 1 [],I 0,PV.list 1 [],I 0,PV.list 1 []]=xnb xtb from rfl]
 simp only [e1,e2,e3,e4,e5,xlu,xag,xah,xau,xap,xaj,xaq,true_and]
 unfold xfz xhD
 generalize decide (a.Entry.Label=label)=b1
 generalize xa9 p.Root p.Count a.Entry a.Proof=b2
 generalize xr5 p.Root p.Count label a.Gap=b3
 generalize decide (a.Entry=xc1)=b4
 cases a.Found<;>cases b1<;>cases b2<;>cases b3<;>cases b4<;>simp) k
theorem xu7 (zone:Int) (label:ByteArray) (a:xaJ) (now:Int) (hl:label.size≤33554432) (h:xbn a≤33554432) (k):call Qjz [.one (I zone),.one (.str label),.agg (xax a),.one (I now)] k=k [I (xn4 zone label a now)]:=xaa (fun k=>by
 obtain ⟨h1,h2,h3,h4⟩:=xbO h
 have e1:=xve a.Chain h1
 unfold xn4
 cases hs:xdr a.Chain with
 | none =>
  rw [hs] at e1
  simp only [Qjz,un,cur0,e1,xd6,xdY,xbt,List.cons_append,List.nil_append,xbg,xag,xbq,xah,xau,xap,xaj,xas,true_and,Bool.not_false,if_true]
 | some p =>
  rw [hs] at e1
  have e2:=xvd p now
  have e3:=xu8 p label a (xh0 hs).1 hl h
  simp only [Qjz,un,cur0,e1,e2,e3,xd6,xbt,List.cons_append,List.nil_append,xbg,xbU,bne,xec,xag,xbq,xah,xau,xap,xaj,xas,true_and,Bool.not_true,Bool.false_eq_true,if_false]
  cases decide (p.Zone=zone)<;>cases inR now p.Time p.Until<;>cases p.Frozen<;>cases xfz p label a<;>simp) k
theorem xvs (p:xa8) (now:Int) (k):call Qif [.agg (xbt p),.one (I now)] k=k [.bool (inR now p.Time p.Until)]:=xaa (fun k=>by
 simp only [Qif,un,cur0,xey,xag,xau,xap,xaj,xaq,true_and]) k
theorem xvn (p:xa8) (label:ByteArray) (a:xaJ) (hc:0≤p.Count∧p.Count≤12) (hl:label.size≤33554432) (h:xbn a≤33554432) (k):call Qio [.agg (xbt p),.one (.str label),.agg (xax a)] k=k [.bool (xfz p label a)]:=xaa (fun k=>by
 obtain ⟨h1,h2,h3,h4⟩:=xbO h
 have e1:=xsM p.Root p.Count a.Entry a.Proof h2 h3
 have e2:=xvp a.Gap xtb h4 mz.2.2
 have e3:=xvo p.Root p.Count label a.Gap hc.2 hl h4
 have e4:=xsJ a.Entry a.Proof h2 h3
 have e5:=e4
 simp only [Qio,un,cur0]
 rw [show [I 0,PV.str ⟨#[]⟩,I 0,I 0,PV.list 1 [],PV.str ⟨#[]⟩,I 0,I 0,PV.list 1 [],I 0,PV.list 1 [],I 0,PV.list 1 []]=xnb xtb from rfl]
 simp only [e1,e2,e3,e4,e5,xlu,xag,xah,xau,xap,xaj,xaq,true_and]
 unfold xfz
 generalize decide (a.Entry.Label=label)=b1
 generalize xa9 p.Root p.Count a.Entry a.Proof=b2
 generalize xr5 p.Root p.Count label a.Gap=b3
 generalize decide (a.Entry=xc1)=b4
 cases a.Found<;>cases b1<;>cases b2<;>cases b3<;>cases b4<;>simp) k
theorem xvm (zone:Int) (label:ByteArray) (a:xaJ) (now:Int) (hl:label.size≤33554432) (h:xbn a≤33554432) (k):call Qip [.one (I zone),.one (.str label),.agg (xax a),.one (I now)] k=k [I (xn4 zone label a now)]:=xaa (fun k=>by
 obtain ⟨h1,h2,h3,h4⟩:=xbO h
 have e1:=xrd a.Chain h1
 unfold xn4
 cases hs:xdr a.Chain with
 | none =>
  rw [hs] at e1
  simp only [Qip,un,cur0,e1,xd6,xdY,xbt,List.cons_append,List.nil_append,xbg,xag,xbq,xah,xau,xap,xaj,xas,true_and,Bool.not_false,if_true]
 | some p =>
  rw [hs] at e1
  have e2:=xvs p now
  have e3:=xvn p label a (xh0 hs).1 hl h
  simp only [Qip,un,cur0,e1,e2,e3,xd6,xbt,List.cons_append,List.nil_append,xbg,xbU,bne,xec,xag,xbq,xah,xau,xap,xaj,xas,true_and,Bool.not_true,Bool.false_eq_true,if_false]
  cases decide (p.Zone=zone)<;>cases inR now p.Time p.Until<;>cases p.Frozen<;>cases xfz p label a<;>simp) k
def xg1:xaf:=⟨xdY,[]⟩
theorem mzS:xar xg1≤33554432:=by decide
def xfA (f:xcb):Bool:=if decide (f.A.Head=f.B.Head)=true then false else if decide (f.Before=xg1)=true then xcN f.A&&(xcN f.B&&decide (f.A.Head.Zone=f.B.Head.Zone)) else xnu f.Before.Head f.A&&xnu f.Before.Head f.B
def fz (c:List xaf):Int:=match c[0]? with | some s=>s.Head.Zone | none=>0
def xmh (z:Int) (c:List xaf):Bool:=match c[0]? with | some s=>decide (s.Head.Zone=z) | none=>false
theorem xcj {c:List xaf} (h:xaO c=true):∃s,c[0]? = some s:=by
 obtain ⟨_,_,h0⟩:=xeS h
 exact ⟨c[0],List.getElem?_eq_getElem h0⟩
abbrev chains (l:List (List xaf)):PV:=.list 1 (l.map (fun l:List xaf=>[PV.list 17 (l.map xam)]))
theorem xsN (a:xaR) (z:Int) (h:a.Chains.length≤33554432) (k):call Qhz [.agg (xbN a),.one (I z)] k=k [I (idx (xmh z) a.Chains)]:=xaa (fun k=>by
 simp only [Qhz,un,cur0]
 refine xek (Q:=fun i=>k [I i]) a.Chains (fun i=>[I z,I 0,I i,chains a.Chains,.list 51 (a.Forks.map xbk)]) (xmh z) rfl (fun i x hx hi K=>?_) fun K=>?_
 ·unfold xmh
  cases h0:x[0]? with
  | none =>
   have h1:x=[]:=by cases x with | nil=>rfl | cons s t=>cases h0
   subst h1
   simp [-getElem?_pos,Qhz_r0,hx,hi,xal (show i<1000000000000000000 by omega)]
  | some s =>
   have h1:=xaM h0
   simp [-getElem?_pos,Qhz_r0,hx,hi,h0,xal (show i<1000000000000000000 by omega),show (0:Int)<(x.length:Int) by omega,h1]
 ·simp [Qhz_r0]) k
theorem xj2 (c:List xaf) (z:Int) (k):call Qka [.one (.list 17 (c.map xam)),.ro (.cells [I z])] k=k [.bool (xmh z c)]:=xaa (fun k=>by
 unfold xmh
 cases h0:c[0]? with
 | none =>
  have h1:c=[]:=by cases c with | nil=>rfl | cons s t=>cases h0
  subst h1
  simp [-getElem?_pos,Qka]
 | some s =>
  have h1:=xaM h0
  simp [-getElem?_pos,Qka,h0,xec,show (0:Int)<(c.length:Int) by omega,h1]) k
theorem xfF (a:xaR) (z:Int) (h:a.Chains.length≤33554432) (k):call Qkc [.agg (xbN a),.one (I z)] k=k [I (idx (xmh z) a.Chains)]:=xaa (fun k=>by
 have e:∀k,call Qkb [.one (chains a.Chains),.fn 387 [.cells [I z]]] k=k [I (idx (xmh z) a.Chains)]:=xaa (fun k=>by
  simp [Qkb]
  refine xek (Q:=fun i=>k [I i]) a.Chains (fun i=>[chains a.Chains,I z,I 0,I a.Chains.length,I i]) (xmh z) rfl (fun i x hx hi K=>?_) fun K=>?_
  ·simp [-getElem?_pos,Qkb_r0,hx,hi,xj2 x z,xal (show i<1000000000000000000 by omega)]
  ·simp [Qkb_r0])
 simp only [Qkc,un,cur0,e,xag,xau,xap,xaj,xas,true_and]) k
theorem xq3 (l m:List xaf) (h:xan l≤33554432) (h':xan m≤33554432) (k):call Qib [.one (.list 17 (l.map xam)),.one (.list 17 (m.map xam))] k=k [.bool (xix l m)]:=xaa (fun k=>by
 have hl0:=xmY h
 have hm0:=xmY h'
 unfold xix
 by_cases hl:l.length≤m.length
 ·simp only [hl,decide_true,Bool.true_and]
  simp [Qib,show ¬(m.length:Int)<l.length by omega]
  refine (xhg k false l (fun i=>[.list 17 (l.map xam),.list 17 (m.map xam),.bool false,I i]) (xr7 m) rfl (fun i x hx hi K=>?_) fun K=>?_).trans (by simp)
  ·obtain ⟨y,hy⟩:∃y,m[i]? = some y:=⟨m[i],List.getElem?_eq_getElem (by omega)⟩
   have e:=xq4 x.Head y.Head (xhf h (xba hx)) (xhf h' (xba hy))
   simp [-getElem?_pos,Qib_r0,hx,hy,hi,e,xr7,xal (show i<1000000000000000000 by omega)]
   all_goals (by_cases hxy:x.Head=y.Head<;>simp [hxy])
  ·simp [Qib_r0]
 ·simp [Qib,hl,show (m.length:Int)<l.length by omega]) k
theorem xq0 (l m:List xaf) (h:xan l≤33554432) (h':xan m≤33554432) (k):call Qke [.one (.list 17 (l.map xam)),.one (.list 17 (m.map xam))] k=k [.bool (xix l m)]:=xaa (fun k=>by
 have hl0:=xmY h
 have hm0:=xmY h'
 unfold xix
 by_cases hl:l.length≤m.length
 ·simp only [hl,decide_true,Bool.true_and]
  simp [Qke,show ¬(m.length:Int)<l.length by omega]
  refine (xhg k false l (fun i=>[.list 17 (m.map xam),.bool false,.list 17 (l.map xam),I l.length,I i]) (xr7 m) rfl (fun i x hx hi K=>?_) fun K=>?_).trans (by simp)
  ·obtain ⟨y,hy⟩:∃y,m[i]? = some y:=⟨m[i],List.getElem?_eq_getElem (by omega)⟩
   have e:=xq1 x.Head y.Head (xhf h (xba hx)) (xhf h' (xba hy))
   simp [-getElem?_pos,Qke_r0,hx,hy,hi,e,xr7,xal (show i<1000000000000000000 by omega)]
   all_goals (by_cases hxy:x.Head=y.Head<;>simp [hxy])
  ·simp [Qke_r0]
 ·simp [Qke,hl,show (m.length:Int)<l.length by omega]) k
def xho:xcb:=⟨xg1,xg1,xg1⟩
def fdiff:Nat→List (xaf×xaf)→Option (Nat×xaf×xaf)
 | _,[]=>none
 | i,(x,y)::l=>if x.Head=y.Head then fdiff (i+1) l else some (i,x,y)
theorem xfJ (P:Nat→xaf×xaf→Prop):∀(i:Nat) (l:List (xaf×xaf)),xew (fun _ q=>!decide (q.1.Head=q.2.Head)) P False i l=match fdiff i l with | some (d,x,y)=>P d (x,y) | none=>False
 | _,[]=>rfl
 | i,(x,y)::l=>by
  rw [xew,fdiff,xfJ P (i+1) l]
  by_cases h:x.Head=y.Head<;>simp [h]
theorem xjw:∀(i:Nat) (l:List (xaf×xaf)),fdiff i l=none→∀q∈l,q.1.Head=q.2.Head
 | _,[],_,q,hq=>by cases hq
 | i,(x,y)::l,h,q,hq=>by
  rw [fdiff] at h
  split at h
  ·rename_i hxy
   rcases List.mem_cons.1 hq with rfl | hq
   ·exact hxy
   ·exact xjw (i+1) l h q hq
  ·cases h
theorem xly {α:Type} (p:Nat→α→Bool):∀(i:Nat) (l:List α),(∀j x,l[j]? = some x→p (i+j) x=false)→xeV p i l=false
 | _,[],_=>rfl
 | i,x::l,h=>by
  have h0:=h 0 x rfl
  rw [Nat.add_zero] at h0
  rw [xeV,h0,Bool.false_or]
  exact xly p (i+1) l fun j y hy=>by
   have:=h (j+1) y (by simpa using hy)
   rwa [show i+(j+1)=i+1+j by omega] at this
theorem xn6 {l m:List xaf} {i:Nat} {x y:xaf} (hx:l[i]? = some x) (hy:m[i]? = some y):(x,y)∈l.zip m:=by
 apply List.mem_of_getElem? (i:=i)
 rw [List.getElem?_zip_eq_some]
 exact ⟨hx,hy⟩
theorem xhN {l m:List xaf} (h:∀q∈l.zip m,q.1.Head=q.2.Head) (hl:l.length≤m.length):xix l m=true:=by
 unfold xix
 have:xeV (xr7 m) 0 l=false:=xly _ 0 l fun j x hx=>by
  have hj:=xaM hx
  have hy:m[j]? = some m[j]:=List.getElem?_eq_getElem (by omega)
  have:=h _ (xn6 hx hy)
  rw [Nat.zero_add]
  unfold xr7
  rw [hy]
  simp only [Bool.not_eq_false',decide_eq_true_eq]
  exact this
 rw [this]
 simp [hl]
theorem xjv {l m:List xaf} (h1:xix l m=false) (h2:xix m l=false):∃d x y,fdiff 0 (l.zip m)=some (d,x,y):=by
 cases h:fdiff 0 (l.zip m) with
 | some q=>exact ⟨q.1,q.2.1,q.2.2,rfl⟩
 | none =>
  have h3:=xjw 0 _ h
  rcases Nat.le_total l.length m.length with h4 | h4
  ·rw [xhN h3 h4] at h1;cases h1
  ·rw [xhN (l:=m) (m:=l) (fun q hq=>by
    obtain ⟨i,hi⟩:=List.mem_iff_getElem?.1 hq
    rw [List.getElem?_zip_eq_some] at hi
    exact (h3 _ (xn6 hi.2 hi.1)).symm) h4] at h2
   cases h2
def xqP (l:List xaf) (d:Nat):xaf:=if d=0 then xg1 else match l[d-1]? with | some z=>z | none=>xg1
def xeh (l m:List xaf):Option xcb:=if xaO l=true then (if xaO m=true then
 (match l[0]?,m[0]? with
  | some x,some y=>if decide (x.Head.Zone=y.Head.Zone)=true then (if xix l m=true then none else if xix m l=true then none else
   match fdiff 0 (l.zip m) with | some (d,x,y)=>some ⟨xqP l d,x,y⟩ | none=>none) else none
  | _,_=>none) else none) else none
def xc3:Option xcb→List PV
 | some f=>xbk f++[.bool true]
 | none=>xbk xho++[.bool false]
theorem xu6 (l m:List xaf) (h:xan l≤33554432) (h':xan m≤33554432) (k):call Qkg [.one (.list 17 (l.map xam)),.one (.list 17 (m.map xam))] k=k (xc3 (xeh l m)):=xaa (fun k=>by
 have e1:=xn0 l h
 have e2:=xn0 m h'
 have e3:=xq0 l m h h'
 have e4:=xq0 m l h' h
 have hl:=(xbT h).2
 have hm:=(xbT h').2
 have hll:=(xbT h).1
 have hlm:=(xbT h').1
 unfold xeh
 cases c1:xaO l with
 | false=>simp [Qkg,e1,c1,xc3,xho,xg1,xdY,ints]
 | true =>
 cases c2:xaO m with
 | false=>simp [Qkg,e1,e2,c1,c2,xc3,xho,xg1,xdY,ints]
 | true =>
 obtain ⟨x0,hx0⟩:=xcj c1
 obtain ⟨y0,hy0⟩:=xcj c2
 rw [hx0,hy0]
 by_cases c3:x0.Head.Zone=y0.Head.Zone
 rotate_left
 ·simp [-getElem?_pos,Qkg,e1,e2,c1,c2,hx0,hy0,c3,xc3,xho,xg1,xdY,ints]
 cases c4:xix l m with
 | true=>simp [-getElem?_pos,Qkg,e1,e2,e3,c1,c2,hx0,hy0,c3,c4,xc3,xho,xg1,xdY,ints]
 | false =>
 cases c5:xix m l with
 | true=>simp [-getElem?_pos,Qkg,e1,e2,e3,e4,c1,c2,hx0,hy0,c3,c4,c5,xc3,xho,xg1,xdY,ints]
 | false =>
 obtain ⟨d,x,y,hd⟩:=xjv c4 c5
 simp only [Qkg,e1,e2,e3,e4,c1,c2,c4,c5,xlj,Int.toNat_zero,hx0,hy0,xoH,xag,xbq,xbg,xbU,bne,xec,c3,decide_true,Bool.not_true,Bool.false_eq_true,if_false,if_true,xah,Int.le_refl,show (0:Int)≤0 by omega,true_and]
 have key:=xfJ (fun d q=>k (xc3 (some ⟨xqP l d,q.1,q.2⟩))) 0 (l.zip m)
 rw [hd] at key
 simp only at key
 rw [hd]
 refine Iff.trans ?_ (Iff.of_eq key)
 refine xfE (l.zip m) (fun i=>[.list 17 (l.map xam),.list 17 (m.map xam),.bool false,I i,(I 0),(I 0),(I 0),(I 0),(I 0),(I 0),(I 0),(I 0),(I 0),(I 0),(I 0),(I 0),(.bool false),(I 0),(I 0),(I 0),(I 0),(I 0),(I 0),(I 0),(I 0),(I 0),(I 0),(I 0),(I 0),(.bool false),(I 0),(I 0),(I 0),(I 0),(I 0),(I 0),(I 0),(I 0),(I 0),(I 0),(I 0),(I 0),(.bool false),(.list 2 []),(.list 1 []),(.list 1 []),(.list 1 []),(.list 2 []),(.list 1 []),(.list 1 []),(.list 1 []),(.list 2 []),(.list 1 []),(.list 1 []),(.list 1 [])]) (fun _ q=>!decide (q.1.Head=q.2.Head)) (fun d q=>k (xc3 (some ⟨xqP l d,q.1,q.2⟩))) rfl (fun i q hq K=>?_) fun K=>?_
 ·obtain ⟨x,y⟩:=q
  obtain ⟨hx,hy⟩:=List.getElem?_zip_eq_some.1 hq
  have q1:=xq1 x.Head y.Head (xa4 (hl x (xba hx))).1 (xa4 (hm y (xba hy))).1
  have q2:=xmA x (hl x (xba hx))
  have q3:=xmA y (hm y (xba hy))
  have hil:=xaM hx
  have him:=xaM hy
  by_cases hxy:x.Head=y.Head
  ·have hxy':decide (x.Head=y.Head)=true:=by simp [hxy]
   rw [hxy'] at q1
   simp [-getElem?_pos,Qkg_r0,hx,hy,q1,hxy',hil,him,xal (show i<1000000000000000000 by omega)]
  ·have hxy':decide (x.Head=y.Head)=false:=by simp [hxy]
   rw [hxy'] at q1
   unfold xqP
   by_cases h0:i=0
   ·subst h0
    simp [-getElem?_pos,Qkg_r0,hx,hy,q1,q2,q3,hxy',hil,him,xc3,xg1,xdY,ints]
   ·obtain ⟨z,hz⟩:∃z,l[i-1]? = some z:=⟨l[i-1],List.getElem?_eq_getElem (by omega)⟩
    have q4:=xmA z (hl z (xba hz))
    simp [-getElem?_pos,Qkg_r0,hx,hy,hz,q1,q2,q3,q4,hxy',hil,him,xc3,h0,show (0:Int)<(i:Int) by omega,show 0<i by omega,xdn (show 0<i by omega) (show i<1000000000000000000 by omega)]
 ·have:(l.zip m)[(l.zip m).length]? = none:=by simp
  have hq:l[(l.zip m).length]? = none∨m[(l.zip m).length]? = none:=by
   simp only [List.length_zip,List.getElem?_eq_none_iff];omega
  generalize (l.zip m).length=n at hq
  cases hx:l[n]? with
  | none=>simp [-getElem?_pos,Qkg_r0,hx]
  | some x =>
   have hy:m[n]? = none:=by rcases hq with h | h;(rw [hx] at h;cases h);exact h
   simp [-getElem?_pos,Qkg_r0,hx,hy]) k
theorem xvt (l m:List xaf) (h:xan l≤33554432) (h':xan m≤33554432) (k):call Qid [.one (.list 17 (l.map xam)),.one (.list 17 (m.map xam))] k=k (xc3 (xeh l m)):=xaa (fun k=>by
 have e1:=xre l h
 have e2:=xre m h'
 have e3:=xq3 l m h h'
 have e4:=xq3 m l h' h
 have hl:=(xbT h).2
 have hm:=(xbT h').2
 have hll:=(xbT h).1
 have hlm:=(xbT h').1
 unfold xeh
 cases c1:xaO l with
 | false=>simp [Qid,e1,c1,xc3,xho,xg1,xdY,ints]
 | true =>
 cases c2:xaO m with
 | false=>simp [Qid,e1,e2,c1,c2,xc3,xho,xg1,xdY,ints]
 | true =>
 obtain ⟨x0,hx0⟩:=xcj c1
 obtain ⟨y0,hy0⟩:=xcj c2
 rw [hx0,hy0]
 by_cases c3:x0.Head.Zone=y0.Head.Zone
 rotate_left
 ·simp [-getElem?_pos,Qid,e1,e2,c1,c2,hx0,hy0,c3,xc3,xho,xg1,xdY,ints]
 cases c4:xix l m with
 | true=>simp [-getElem?_pos,Qid,e1,e2,e3,c1,c2,hx0,hy0,c3,c4,xc3,xho,xg1,xdY,ints]
 | false =>
 cases c5:xix m l with
 | true=>simp [-getElem?_pos,Qid,e1,e2,e3,e4,c1,c2,hx0,hy0,c3,c4,c5,xc3,xho,xg1,xdY,ints]
 | false =>
 obtain ⟨d,x,y,hd⟩:=xjv c4 c5
 simp only [Qid,e1,e2,e3,e4,c1,c2,c4,c5,xlj,Int.toNat_zero,hx0,hy0,xoH,xag,xbq,xbg,xbU,bne,xec,c3,decide_true,Bool.not_true,Bool.false_eq_true,if_false,if_true,xah,Int.le_refl,show (0:Int)≤0 by omega,true_and]
 have key:=xfJ (fun d q=>k (xc3 (some ⟨xqP l d,q.1,q.2⟩))) 0 (l.zip m)
 rw [hd] at key
 simp only at key
 rw [hd]
 refine Iff.trans ?_ (Iff.of_eq key)
 refine xfE (l.zip m) (fun i=>[.list 17 (l.map xam),.list 17 (m.map xam),.bool false,I i,(I 0),(I 0),(I 0),(I 0),(I 0),(I 0),(I 0),(I 0),(I 0),(I 0),(I 0),(I 0),(.bool false),(I 0),(I 0),(I 0),(I 0),(I 0),(I 0),(I 0),(I 0),(I 0),(I 0),(I 0),(I 0),(.bool false),(I 0),(I 0),(I 0),(I 0),(I 0),(I 0),(I 0),(I 0),(I 0),(I 0),(I 0),(I 0),(.bool false),(.list 2 []),(.list 1 []),(.list 1 []),(.list 1 []),(.list 2 []),(.list 1 []),(.list 1 []),(.list 1 []),(.list 2 []),(.list 1 []),(.list 1 []),(.list 1 [])]) (fun _ q=>!decide (q.1.Head=q.2.Head)) (fun d q=>k (xc3 (some ⟨xqP l d,q.1,q.2⟩))) rfl (fun i q hq K=>?_) fun K=>?_
 ·obtain ⟨x,y⟩:=q
  obtain ⟨hx,hy⟩:=List.getElem?_zip_eq_some.1 hq
  have q1:=xq4 x.Head y.Head (xa4 (hl x (xba hx))).1 (xa4 (hm y (xba hy))).1
  have q2:=xlL x (hl x (xba hx))
  have q3:=xlL y (hm y (xba hy))
  have hil:=xaM hx
  have him:=xaM hy
  by_cases hxy:x.Head=y.Head
  ·have hxy':decide (x.Head=y.Head)=true:=by simp [hxy]
   rw [hxy'] at q1
   simp [-getElem?_pos,Qid_r0,hx,hy,q1,hxy',hil,him,xal (show i<1000000000000000000 by omega)]
  ·have hxy':decide (x.Head=y.Head)=false:=by simp [hxy]
   rw [hxy'] at q1
   unfold xqP
   by_cases h0:i=0
   ·subst h0
    simp [-getElem?_pos,Qid_r0,hx,hy,q1,q2,q3,hxy',hil,him,xc3,xg1,xdY,ints]
   ·obtain ⟨z,hz⟩:∃z,l[i-1]? = some z:=⟨l[i-1],List.getElem?_eq_getElem (by omega)⟩
    have q4:=xlL z (hl z (xba hz))
    simp [-getElem?_pos,Qid_r0,hx,hy,hz,q1,q2,q3,q4,hxy',hil,him,xc3,h0,show (0:Int)<(i:Int) by omega,show 0<i by omega,xdn (show 0<i by omega) (show i<1000000000000000000 by omega)]
 ·have hq:l[(l.zip m).length]? = none∨m[(l.zip m).length]? = none:=by
   simp only [List.length_zip,List.getElem?_eq_none_iff];omega
  generalize (l.zip m).length=n at hq
  cases hx:l[n]? with
  | none =>
   have hn:¬(n:Int)<(l.length:Int):=by have:=List.getElem?_eq_none_iff.1 hx;omega
   simp [-getElem?_pos,Qid_r0,hx,show ¬n<l.length by omega]
  | some x =>
   have hy:m[n]? = none:=by rcases hq with h | h;(rw [hx] at h;cases h);exact h
   have h1:=xaM hx
   have hn:¬(n:Int)<(m.length:Int):=by have:=List.getElem?_eq_none_iff.1 hy;omega
   have c:=xlL x (hl x (xba hx))
   simp [-getElem?_pos,Qid_r0,hx,hy,h1,show ¬n<m.length by omega,c]) k
def xtk:xaJ:=⟨[],false,⟨⟨#[]⟩,0,0,[]⟩,⟨0,[]⟩,⟨0,⟨⟨#[]⟩,0,0,[]⟩,⟨⟨#[]⟩,0,0,[]⟩,⟨0,[]⟩,⟨0,[]⟩⟩⟩
def picks (s:ByteArray) (a:xaJ):Bool:=a.Found&&decide (a.Entry.Label=s)
def xg3 (s:ByteArray):List xaJ→Option xaJ
 | []=>none
 | x::l=>if picks s x=true then some x else xg3 s l
theorem xkK {s:ByteArray}:∀{l:List xaJ} {x:xaJ},xg3 s l=some x→x∈l
 | [],x,h=>by cases h
 | y::l,x,h=>by
  simp only [xg3] at h
  split at h
  ·injection h with h;subst h;simp
  ·exact List.mem_cons_of_mem _ (xkK h)
def xoB:Option xaJ→List PV
 | some a=>xax a++[.bool true]
 | none=>xax xtk++[.bool false]
theorem xgG (s:ByteArray) (k:List PV→Prop):∀(i:Nat) (l:List xaJ),xew (fun _ x=>picks s x) (fun _ x=>k (xax x++[.bool true])) (k (xax xtk++[.bool false])) i l=k (xoB (xg3 s l))
 | _,[]=>rfl
 | i,x::l=>by
  simp only [xew,xg3]
  split
  ·rfl
  ·exact xgG s k (i+1) l
theorem xoi {p:xa8} {s:xaf} (h:xnu p s=true):s.Head.Zone=p.Zone:=by
 unfold xnu xol at h
 simp only [decide_eq_true_eq] at h
 by_cases h1:xcD p=true
 rotate_left
 ·rw [if_neg h1] at h;exact absurd h (by decide)
 rw [if_pos h1] at h
 by_cases h2:xcD s.Head=true
 rotate_left
 ·rw [if_neg h2] at h;exact absurd h (by decide)
 rw [if_pos h2] at h
 by_cases h3:xp3 p s.Head=true
 ·unfold xp3 at h3
  simp only [Bool.and_eq_true,decide_eq_true_eq] at h3
  exact h3.1
 ·rw [if_neg h3] at h;exact absurd h (by decide)
theorem xm4 {α:Type} {p:Nat→α→Bool}:∀{l:List α} {n:Nat},xj8 p n l<0→∀i x,l[i]? = some x→p (n+i) x=false
 | [],n,h,i,x,hx=>by cases hx
 | y::l,n,h,i,x,hx=>by
  rw [xj8] at h
  by_cases hp:p n y=true
  ·rw [if_pos hp] at h;omega
  ·rw [if_neg hp] at h
   cases i with
   | zero=>cases hx;simpa using hp
   | succ i=>rw [show n+(i+1)=n+1+i by omega];exact xm4 h i x hx
theorem xnR {l:List xaf} (h:xaO l=true):∀(i:Nat) (x:xaf),l[i]? = some x→x.Head.Zone=fz l:=by
 unfold xaO sFW at h
 simp only [Bool.and_eq_true,decide_eq_true_eq] at h
 have hw:=xm4 h.2
 intro i
 induction i with
 | zero=>intro x hx;simp [fz,hx]
 | succ i ih =>
  intro x hx
  have h1:=hw (i+1) x hx
  have hl:=xaM hx
  obtain ⟨y,hy⟩:∃y,l[i]? = some y:=⟨l[i],List.getElem?_eq_getElem (by omega)⟩
  simp only [xfj,Nat.zero_add,show ¬(i+1=0) by omega,if_false,Nat.add_sub_cancel,hy,Bool.not_eq_false'] at h1
  rw [xoi h1]
  exact ih y hy
theorem xoV {l:List xaf} {p:xa8} (h:xdr l=some p):xaO l=true∧p.Zone=fz l:=by
 unfold xdr at h
 by_cases hc:xaO l=true
 ·rw [if_pos hc] at h
  obtain ⟨x,hx,_⟩:=xeS hc
  rw [hx] at h
  cases h
  exact ⟨hc,xnR hc _ x hx⟩
 ·rw [if_neg hc] at h;cases h
def FB (f:xcb):Prop:=xar f.Before≤33554432∧xar f.A≤33554432∧xar f.B≤33554432
def KB (a:xaR):Prop:=a.Chains.length≤33554432∧(∀c∈a.Chains,xan c≤33554432)∧a.Forks.length≤33554432∧∀f∈a.Forks,FB f
def kI (k:xaR) (c:List xaf):Int:=idx (xmh (fz c)) k.Chains
def kC (k:xaR) (c:List xaf):List xaf:=k.Chains.getD (kI k c).toNat []
def xdD (k:xaR) (c:List xaf):Int :=
 if xaO c=true then (if decide (kI k c<0)=true then 1 else
  if (xix (kC k c) c&&xix c (kC k c))=true then 2 else if xix (kC k c) c=true then 3 else if xix c (kC k c)=true then 4 else 5) else 6
def xc2 (k:xaR) (c:List xaf):xaR×Int :=
 if xdD k c=1 then (if (8:Int)≤k.Chains.length then (k,6) else (⟨k.Chains++[c],k.Forks⟩,1))
 else if xdD k c=3 then (⟨k.Chains.set (kI k c).toNat c,k.Forks⟩,3)
 else if xdD k c=5 then (match xeh (kC k c) c with | some f=>if (k.Forks.length:Int)<8 then (⟨k.Chains,k.Forks++[f]⟩,5) else (k,5) | none=>(k,5))
 else (k,xdD k c)
def sFZ (f:xcb):Int:=if xfA f=true then f.A.Head.Zone else -1
def xdS (k:xaR) (z:Int):Bool:=decide (0≤z)&&k.Forks.any (fun f=>decide (sFZ f=z))
def xlU (k:xaR) (a:xaJ) (z:Int):xaR×Int:=if (xaO a.Chain&&decide (fz a.Chain=z))=true then xc2 k a.Chain else (k,6)
def xlO (k:xaR) (a:xaJ) (z:Int) (s:ByteArray) (now:Int):Int :=
 if (decide (xn4 z s a now=1)&&!(inR (xlU k a z).2 1 3&&!xdS (xlU k a z).1 z))=true then 3 else xn4 z s a now
theorem xlg {l m:List xaf} {d:Nat} {x y:xaf}:∀{i:Nat} {z:List (xaf×xaf)},fdiff i z=some (d,x,y)→(x,y)∈z
 | _,[],h=>by cases h
 | i,(a,b)::z,h=>by
  rw [fdiff] at h
  split at h
  ·exact List.mem_cons_of_mem _ (xlg (l:=l) (m:=m) h)
  ·cases h;exact List.mem_cons_self
theorem xo7 {l m:List xaf} {f:xcb} (hl:xan l≤33554432) (hm:xan m≤33554432) (h:xeh l m=some f):FB f:=by
 unfold xeh at h
 split at h
 rotate_left
 ·cases h
 split at h
 rotate_left
 ·cases h
 split at h
 rotate_left
 ·cases h
 split at h
 rotate_left
 ·cases h
 split at h
 ·cases h
 split at h
 ·cases h
 split at h
 rotate_left
 ·cases h
 rename_i d x y hd
 cases h
 have hz:=xlg (l:=l) (m:=m) hd
 have hx:=(List.of_mem_zip hz).1
 have hy:=(List.of_mem_zip hz).2
 refine ⟨?_,(xbT hl).2 _ hx,(xbT hm).2 _ hy⟩
 show xar (xqP l d)≤33554432
 unfold xqP
 split
 ·exact mzS
 ·split
  ·rename_i z hz;exact (xbT hl).2 _ (List.mem_of_getElem? hz)
  ·exact mzS
theorem xkp {k:xaR} {c:List xaf} (hk:KB k) (hc:xan c≤33554432):KB (xc2 k c).1:=by
 obtain ⟨h1,h2,h3,h4⟩:=hk
 unfold xc2
 split
 ·split
  ·exact ⟨h1,h2,h3,h4⟩
  ·refine ⟨by simp;omega,fun x hx=>?_,h3,h4⟩
   rcases List.mem_append.1 hx with hx | hx
   ·exact h2 x hx
   ·rw [List.mem_singleton.1 hx];exact hc
 split
 ·refine ⟨by simpa using h1,fun x hx=>?_,h3,h4⟩
  rcases List.mem_or_eq_of_mem_set hx with hx | hx
  ·exact h2 x hx
  ·rw [hx];exact hc
 split
 ·split
  ·rename_i f hf
   split
   ·refine ⟨h1,h2,by simp;omega,fun x hx=>?_⟩
    rcases List.mem_append.1 hx with hx | hx
    ·exact h4 x hx
    ·rw [List.mem_singleton.1 hx]
     refine xo7 ?_ hc hf
     unfold kC
     rw [List.getD_eq_getElem?_getD]
     cases hq:k.Chains[(kI k c).toNat]? with
     | none=>simp [xan,xbd]
     | some q=>exact h2 q (List.mem_of_getElem? hq)
   ·exact ⟨h1,h2,h3,h4⟩
  ·exact ⟨h1,h2,h3,h4⟩
 ·exact ⟨h1,h2,h3,h4⟩
theorem xrM {k:xaR} {a:xaJ} {z:Int} (hk:KB k) (ha:xbn a≤33554432):KB (xlU k a z).1:=by
 unfold xlU
 split
 ·exact xkp hk (xbO ha).1
 ·exact hk
def xeC (z:Int) (s:ByteArray) (now:Int):xaR→List Int→Nat→List xaJ→xaR×List Int×Option (Nat×xaJ)
 | k,cs,_,[]=>(k,cs,none)
 | k,cs,i,a::r=>if xlO k a z s now=1 then ((xlU k a z).1,cs++[xlO k a z s now],some (i,a)) else xeC z s now (xlU k a z).1 (cs++[xlO k a z s now]) (i+1) r
theorem xoQ {z:Int} {s:ByteArray} {now:Int}:∀{l:List xaJ} {k:xaR} {cs:List Int} {i j:Nat} {a:xaJ},(xeC z s now k cs i l).2.2=some (j,a)→i≤j∧l[j-i]? = some a∧(xeC z s now k cs i l).2.1.length=cs.length+(j-i)+1
 | [],k,cs,i,j,a,h=>by cases h
 | b::r,k,cs,i,j,a,h=>by
  rw [xeC] at h ⊢
  split at h
  ·rename_i hc
   rw [if_pos hc]
   cases h
   simp
  ·rename_i hc
   rw [if_neg hc]
   obtain ⟨h1,h2,h3⟩:=xoQ h
   refine ⟨by omega,?_,?_⟩
   ·rw [show j-i=(j-(i+1))+1 by omega,List.getElem?_cons_succ];exact h2
   ·rw [h3];simp;omega
theorem xh4 (f:xcb) (h:FB f) (k):call Qdw [.agg (xbk f)] k=k (xbk f):=xaa (fun k=>by
 obtain ⟨h1,h2,h3⟩:=h
 simp [Qdw,xmA f.Before h1,xmA f.A h2,xmA f.B h3]) k
theorem xiA (f:xcb) (h:FB f) (k):call Qbo [.agg (xbk f)] k=k (xbk f):=xaa (fun k=>by
 obtain ⟨h1,h2,h3⟩:=h
 simp [Qbo,xlL f.Before h1,xlL f.A h2,xlL f.B h3]) k
theorem xeu (a:xaR) (h:KB a) (k):call Qdx [.agg (xbN a)] k=k (xbN a):=xaa (fun k=>by
 obtain ⟨hc,hc0,hf,hf0⟩:=h
 simp [Qdx]
 refine xbD a.Chains (fun i=>[(.list 1 (a.Chains.map xdX)),I a.Chains.length,I i,(.list 1 (a.Chains.map xdX)),(.list 51 (a.Forks.map xbk)),.list 51 [],.list 1 [],.list 51 [],.list 1 ((a.Chains.take i).map xdX)]) (by simp) (fun i x hx hi K=>?_) fun K=>?_
 ·have e:=xrb x (hc0 x (List.mem_of_getElem? hx))
  rw [xaY hx,List.map_append]
  simp [-getElem?_pos,Qdx_r0,hx,hi,e,xal (show i<1000000000000000000 by omega)]
  try omega
 ·simp [Qdx_r0]
  refine xbD a.Forks (fun i=>[(.list 1 (a.Chains.map xdX)),I a.Chains.length,I a.Chains.length,(.list 51 (a.Forks.map xbk)),I a.Forks.length,I i,(.list 1 (a.Chains.map xdX)),(.list 51 (a.Forks.map xbk)),.list 51 [],.list 1 [],.list 51 ((a.Forks.take i).map xbk),(.list 1 (a.Chains.map xdX))]) (by simp) (fun i x hx hi K=>?_) fun K=>?_
  ·have e:=xh4 x (hf0 x (List.mem_of_getElem? hx))
   rw [xaY hx,List.map_append]
   simp [-getElem?_pos,Qdx_r1,hx,hi,e,xal (show i<1000000000000000000 by omega)]
   try omega
  ·simp [Qdx_r1]) k
theorem xfk (a:xaR) (h:KB a) (k):call Qbp [.agg (xbN a)] k=k (xbN a):=xaa (fun k=>by
 obtain ⟨hc,hc0,hf,hf0⟩:=h
 simp [Qbp]
 refine xbD a.Chains (fun i=>[I i,(.list 1 (a.Chains.map xdX)),(.list 51 (a.Forks.map xbk)),.list 51 [],.list 1 [],.list 51 [],.list 1 ((a.Chains.take i).map xdX)]) (by simp) (fun i x hx hi K=>?_) fun K=>?_
 ·have e:=xrj x (hc0 x (List.mem_of_getElem? hx))
  rw [xaY hx,List.map_append]
  simp [-getElem?_pos,Qbp_r0,hx,hi,e,xal (show i<1000000000000000000 by omega)]
  try omega
 ·simp [Qbp_r0]
  refine xbD a.Forks (fun i=>[I a.Chains.length,I i,(.list 1 (a.Chains.map xdX)),(.list 51 (a.Forks.map xbk)),.list 51 [],.list 1 [],.list 51 ((a.Forks.take i).map xbk),(.list 1 (a.Chains.map xdX))]) (by simp) (fun i x hx hi K=>?_) fun K=>?_
  ·have e:=xiA x (hf0 x (List.mem_of_getElem? hx))
   rw [xaY hx,List.map_append]
   simp [-getElem?_pos,Qbp_r1,hx,hi,e,xal (show i<1000000000000000000 by omega)]
   try omega
  ·simp [Qbp_r1]) k
theorem xj4 (f:xcb) (h:FB f) (k):call Qkk [.agg (xbk f)] k=k [.bool (xfA f)]:=xaa (fun k=>by
 obtain ⟨h1,h2,h3⟩:=h
 have e1:=xq1 f.A.Head f.B.Head (xa4 h2).1 (xa4 h3).1
 have e2:=xu4 f.Before xg1 h1 mzS
 have e3:=xsU f.A h2
 have e4:=xsU f.B h3
 have e5:=xsS f.Before.Head f.A (xa4 h1).1 h2
 have e6:=xsS f.Before.Head f.B (xa4 h1).1 h3
 simp only [Qkk,un,cur0]
 rw [show [I 0,I 0,I 0,I 0,I 0,I 0,I 0,I 0,PV.list 1 [],I 0,PV.list 1 [],I 0,I 0,PV.list 1 [],I 0,PV.bool false,PV.list 2 []]=xam xg1 from rfl]
 simp only [e1,e2,e3,e4,e5,e6,xaI,xec,xag,xah,xau,xap,xaj,xaq,true_and]
 unfold xfA
 cases decide (f.A.Head=f.B.Head)<;>cases decide (f.Before=xg1)<;>cases xcN f.A<;>cases xcN f.B<;>cases xnu f.Before.Head f.A<;>simp) k
theorem xjJ (f:xcb) (h:FB f) (k):call Qir [.agg (xbk f)] k=k [.bool (xfA f)]:=xaa (fun k=>by
 obtain ⟨h1,h2,h3⟩:=h
 have e1:=xq4 f.A.Head f.B.Head (xa4 h2).1 (xa4 h3).1
 have e2:=xvl f.Before xg1 h1 mzS
 have e3:=xs1 f.A h2
 have e4:=xs1 f.B h3
 have e5:=xsZ f.Before.Head f.A (xa4 h1).1 h2
 have e6:=xsZ f.Before.Head f.B (xa4 h1).1 h3
 simp only [Qir,un,cur0]
 rw [show [I 0,I 0,I 0,I 0,I 0,I 0,I 0,I 0,PV.list 1 [],I 0,PV.list 1 [],I 0,I 0,PV.list 1 [],I 0,PV.bool false,PV.list 2 []]=xam xg1 from rfl]
 simp only [e1,e2,e3,e4,e5,e6,xaI,xec,xag,xah,xau,xap,xaj,xaq,true_and]
 unfold xfA
 cases decide (f.A.Head=f.B.Head)<;>cases decide (f.Before=xg1)<;>cases xcN f.A<;>cases xcN f.B<;>cases xnu f.Before.Head f.A<;>simp) k
theorem xh5 (f:xcb) (h:FB f) (k):call Qkl [.agg (xbk f)] k=k [I (sFZ f)]:=xaa (fun k=>by
 have e:=xj4 f h
 simp only [Qkl,un,cur0]
 simp only [e,xbg,xag,xah,xau,xap,xaj,xas,true_and]
 unfold sFZ
 cases xfA f<;>simp) k
theorem xhz (f:xcb) (h:FB f) (k):call Qis [.agg (xbk f)] k=k [I (sFZ f)]:=xaa (fun k=>by
 have e:=xjJ f h
 simp only [Qis,un,cur0]
 simp only [e,xbg,xag,xah,xau,xap,xaj,xas,true_and]
 unfold sFZ
 cases xfA f<;>simp) k
theorem xgE (f:xcb) (z:Int) (h:FB f) (k):call Qkm [.agg (xbk f),.ro (.cells [I z])] k=k [.bool (decide (sFZ f=z))]:=xaa (fun k=>by
 have e:=xh5 f h
 simp only [Qkm,un,cur0]
 simp only [e,xaI,xec,xag,xau,xap,xaj,xaq,true_and]) k
theorem xo6 (k:xaR) (z:Int) (h:0≤z):xdS k z=k.Forks.any (fun f=>decide (sFZ f=z)):=by
 unfold xdS
 simp [h]
theorem xeL (a:xaR) (z:Int) (h:KB a) (k):call Qkp [.agg (xbN a),.one (I z)] k=k [.bool (xdS a z)]:=xaa (fun k=>by
 obtain ⟨_,_,hf,hf0⟩:=h
 have e0:∀k,call Qkn [.one (.list 51 (a.Forks.map xbk)),.fn 338 [.cells [I z]]] k=k [I (idx (fun f=>decide (sFZ f=z)) a.Forks)]:=xaa (fun k=>by
  simp [Qkn]
  refine xek (Q:=fun i=>k [I i]) a.Forks (fun i=>[.list 51 (a.Forks.map xbk),I z,I 0,I a.Forks.length,I i]) (fun f=>decide (sFZ f=z)) rfl (fun i x hx hi K=>?_) fun K=>?_
  ·have e:=xgE x z (hf0 x (List.mem_of_getElem? hx))
   simp [-getElem?_pos,Qkn_r0,hx,hi,e,xal (show i<1000000000000000000 by omega)]
  ·simp [Qkn_r0])
 have e:∀k,call Qko [.one (.list 51 (a.Forks.map xbk)),.fn 338 [.cells [I z]]] k=k [.bool (a.Forks.any fun f=>decide (sFZ f=z))]:=xaa (fun k=>by
  simp only [Qko,un,cur0,e0,xb8,xag,xau,xap,xaj,xaq,true_and,xmc])
 simp only [Qkp,un,cur0,xb8,xah]
 by_cases hz:0≤z
 ·simp [hz,e,xo6 a z hz]
 ·simp [hz,xdS]) k
theorem xeA (a:xaR) (z:Int) (h:KB a) (k):call Qit [.agg (xbN a),.one (I z)] k=k [.bool (xdS a z)]:=xaa (fun k=>by
 obtain ⟨_,_,hf,hf0⟩:=h
 simp only [Qit,un,cur0]
 have hs:xdS a z=(a.Forks.any (fun f=>decide (sFZ f=z)&&decide (0≤z))==true):=by
  unfold xdS
  by_cases hz:0≤z<;>simp [hz]
 rw [hs]
 refine xsc k true a.Forks (fun i=>[I z,.bool false,I i,chains a.Chains,.list 51 (a.Forks.map xbk)]) (fun f=>decide (sFZ f=z)&&decide (0≤z)) rfl (fun i x hx hi K=>?_) fun K=>?_
 ·have e:=xhz x (hf0 x (List.mem_of_getElem? hx))
  simp [-getElem?_pos,Qit_r0,hx,hi,e,xal (show i<1000000000000000000 by omega)]
  by_cases h1:sFZ x=z<;>by_cases h2:0≤z<;>simp [h1,h2]
 ·simp [Qit_r0]) k
theorem xjl {α:Type} {p:α→Bool} {l:List α} (h:¬idx p l<0):0≤idx p l∧(idx p l).toNat<l.length∧∃d,l[(idx p l).toNat]? = some d:=by
 have hb:=xhk p l 0
 unfold idx at h ⊢
 rcases hb with h1 | ⟨h1,h2⟩
 ·omega
 ·have hl:(xeq p 0 l).toNat<l.length:=by omega
  exact ⟨by omega,hl,l[(xeq p 0 l).toNat],List.getElem?_eq_getElem hl⟩
theorem xqp {k:xaR} {c d:List xaf} (h:k.Chains[(kI k c).toNat]? = some d):kC k c=d:=by
 unfold kC;rw [List.getD_eq_getElem?_getD,h];rfl
theorem xmb (a:xaR) (l:List xaf) (hk:KB a) (h:xan l≤33554432) (k):call Qkf [.agg (xbN a),.one (.list 17 (l.map xam))] k=k [I (xdD a l)]:=xaa (fun k=>by
 have e1:=xn0 l h
 unfold xdD
 cases c1:xaO l with
 | false=>simp [Qkf,e1,c1]
 | true =>
 obtain ⟨s,hs⟩:=xcj c1
 have hz:fz l=s.Head.Zone:=by simp [fz,hs]
 have e2:∀k,call Qkc [.agg [chains a.Chains,.list 51 (a.Forks.map xbk)],.one (I s.Head.Zone)] k=k [I (kI a l)]:=by
  have:=xfF a (fz l) hk.1
  rw [hz] at this
  unfold kI
  rw [hz]
  exact this
 have hlen:=xaM hs
 by_cases c2:kI a l<0
 ·simp [-getElem?_pos,Qkf,e1,c1,hs,e2,c2]
 ·obtain ⟨h0,hl,d,hd⟩:=xjl (p:=xmh (fz l)) (l:=a.Chains) c2
  have hd':a.Chains[(kI a l).toNat]? = some d:=hd
  have h0':0≤kI a l:=h0
  have hC:=xqp hd'
  have hm:=hk.2.1 d (List.mem_of_getElem? hd)
  have e3:=xq0 d l hm h
  have e4:=xq0 l d h hm
  rw [hC]
  simp [-getElem?_pos,Qkf,e1,c1,hs,e2,c2,hd',h0',e3,e4]
  cases xix d l<;>cases xix l d<;>simp) k
theorem xlS (a:xaR) (l:List xaf) (hk:KB a) (h:xan l≤33554432) (k):call Qic [.agg (xbN a),.one (.list 17 (l.map xam))] k=k [I (xdD a l)]:=xaa (fun k=>by
 have e1:=xre l h
 unfold xdD
 cases c1:xaO l with
 | false=>simp [Qic,e1,c1]
 | true =>
 obtain ⟨s,hs⟩:=xcj c1
 have hz:fz l=s.Head.Zone:=by simp [fz,hs]
 have e2:∀k,call Qhz [.agg [chains a.Chains,.list 51 (a.Forks.map xbk)],.one (I s.Head.Zone)] k=k [I (kI a l)]:=by
  have:=xsN a (fz l) hk.1
  rw [hz] at this
  unfold kI
  rw [hz]
  exact this
 have hlen:=xaM hs
 by_cases c2:kI a l<0
 ·simp [-getElem?_pos,Qic,e1,c1,hs,e2,c2]
 ·obtain ⟨h0,hl,d,hd⟩:=xjl (p:=xmh (fz l)) (l:=a.Chains) c2
  have hd':a.Chains[(kI a l).toNat]? = some d:=hd
  have h0':0≤kI a l:=h0
  have hC:=xqp hd'
  have hm:=hk.2.1 d (List.mem_of_getElem? hd)
  have e3:=xq3 d l hm h
  have e4:=xq3 l d h hm
  rw [hC]
  simp [-getElem?_pos,Qic,e1,c1,hs,e2,c2,hd',h0',e3,e4]
  cases xix d l<;>cases xix l d<;>simp) k
theorem xkZ (a:xaR) (l:List xaf) (hk:KB a) (h:xan l≤33554432) (k):call Qkh [.agg (xbN a),.one (.list 17 (l.map xam))] k=k (xbN (xc2 a l).1++[I (xc2 a l).2]):=xaa (fun k=>by
 have e1:=xeu a hk
 have e2:=xmb a l hk h
 have e3:=xrb l h
 have hch:=hk.1
 have hfl:=hk.2.2.1
 unfold xc2
 by_cases c1:xdD a l=1
 ·by_cases c2:(8:Int)≤a.Chains.length
  ·simp [Qkh,e1,e2,e3,c1,c2]
  ·simp [Qkh,e1,e2,e3,c1,c2,show a.Chains.length<1073741823 by omega]
   try (intro _;omega)
 by_cases c3:xdD a l=3
 ·have hc:xaO l=true:=by
   by_cases hc:xaO l=true
   ·exact hc
   ·unfold xdD at c3;rw [if_neg hc] at c3;cases c3
  have hi:¬kI a l<0:=by
   intro hi
   unfold xdD at c3;rw [if_pos hc,if_pos (by simpa using hi)] at c3;cases c3
  obtain ⟨s,hs⟩:=xcj hc
  have hz:fz l=s.Head.Zone:=by simp [fz,hs]
  have e4:∀k,call Qkc [.agg [chains a.Chains,.list 51 (a.Forks.map xbk)],.one (I s.Head.Zone)] k=k [I (kI a l)]:=by
   have:=xfF a (fz l) hk.1
   rw [hz] at this
   unfold kI
   rw [hz]
   exact this
  obtain ⟨h0,hl,d,hd⟩:=xjl (p:=xmh (fz l)) (l:=a.Chains) hi
  have hd':a.Chains[(kI a l).toNat]? = some d:=hd
  have h0':0≤kI a l:=h0
  have hl':(kI a l).toNat<a.Chains.length:=hl
  have hlen:=xaM hs
  simp [-getElem?_pos,Qkh,e1,e2,e3,c3,hs,e4,h0',hl',hd',over]
 by_cases c5:xdD a l=5
 ·have hc:xaO l=true:=by
   by_cases hc:xaO l=true
   ·exact hc
   ·unfold xdD at c5;rw [if_neg hc] at c5;cases c5
  have hi:¬kI a l<0:=by
   intro hi
   unfold xdD at c5;rw [if_pos hc,if_pos (by simpa using hi)] at c5;cases c5
  obtain ⟨s,hs⟩:=xcj hc
  have hz:fz l=s.Head.Zone:=by simp [fz,hs]
  have e4:∀k,call Qkc [.agg [chains a.Chains,.list 51 (a.Forks.map xbk)],.one (I s.Head.Zone)] k=k [I (kI a l)]:=by
   have:=xfF a (fz l) hk.1
   rw [hz] at this
   unfold kI
   rw [hz]
   exact this
  obtain ⟨h0,hl,d,hd⟩:=xjl (p:=xmh (fz l)) (l:=a.Chains) hi
  have hd':a.Chains[(kI a l).toNat]? = some d:=hd
  have h0':0≤kI a l:=h0
  have hl':(kI a l).toNat<a.Chains.length:=hl
  have hC:=xqp hd'
  have hm:=hk.2.1 d (List.mem_of_getElem? hd)
  have e5:=xu6 d l hm h
  have hlen:=xaM hs
  rw [hC]
  cases hf:xeh d l with
  | none =>
   rw [hf] at e5
   simp [-getElem?_pos,Qkh,e1,e2,e3,c5,hs,e4,h0',hl',hd',e5,xc3]
  | some f =>
   rw [hf] at e5
   by_cases c6:(a.Forks.length:Int)<8
   ·simp [-getElem?_pos,Qkh,e1,e2,e3,c5,hs,e4,h0',hl',hd',e5,xc3,c6,show a.Forks.length<1073741823 by omega]
    try (intro _;omega)
   ·simp [-getElem?_pos,Qkh,e1,e2,e3,c5,hs,e4,h0',hl',hd',e5,xc3,c6]
 simp [Qkh,e1,e2,e3,c1,c3,c5]) k
theorem xkw (a:xaR) (l:List xaf) (hk:KB a) (h:xan l≤33554432) (k):call Qie [.agg (xbN a),.one (.list 17 (l.map xam))] k=k (xbN (xc2 a l).1++[I (xc2 a l).2]):=xaa (fun k=>by
 have e1:=xfk a hk
 have e2:=xlS a l hk h
 have e3:=xrj l h
 have hch:=hk.1
 have hfl:=hk.2.2.1
 unfold xc2
 by_cases c1:xdD a l=1
 ·by_cases c2:(8:Int)≤a.Chains.length
  ·simp [Qie,e1,e2,e3,c1,c2]
  ·simp [Qie,e1,e2,e3,c1,c2,show a.Chains.length<1073741823 by omega]
   try (intro _;omega)
 by_cases c3:xdD a l=3
 ·have hc:xaO l=true:=by
   by_cases hc:xaO l=true
   ·exact hc
   ·unfold xdD at c3;rw [if_neg hc] at c3;cases c3
  have hi:¬kI a l<0:=by
   intro hi
   unfold xdD at c3;rw [if_pos hc,if_pos (by simpa using hi)] at c3;cases c3
  obtain ⟨s,hs⟩:=xcj hc
  have hz:fz l=s.Head.Zone:=by simp [fz,hs]
  have e4:∀k,call Qhz [.agg [chains a.Chains,.list 51 (a.Forks.map xbk)],.one (I s.Head.Zone)] k=k [I (kI a l)]:=by
   have:=xsN a (fz l) hk.1
   rw [hz] at this
   unfold kI
   rw [hz]
   exact this
  obtain ⟨h0,hl,d,hd⟩:=xjl (p:=xmh (fz l)) (l:=a.Chains) hi
  have hd':a.Chains[(kI a l).toNat]? = some d:=hd
  have h0':0≤kI a l:=h0
  have hl':(kI a l).toNat<a.Chains.length:=hl
  have hlen:=xaM hs
  simp [-getElem?_pos,Qie,e1,e2,e3,c3,hs,e4,h0',hl',hd',over]
 by_cases c5:xdD a l=5
 ·have hc:xaO l=true:=by
   by_cases hc:xaO l=true
   ·exact hc
   ·unfold xdD at c5;rw [if_neg hc] at c5;cases c5
  have hi:¬kI a l<0:=by
   intro hi
   unfold xdD at c5;rw [if_pos hc,if_pos (by simpa using hi)] at c5;cases c5
  obtain ⟨s,hs⟩:=xcj hc
  have hz:fz l=s.Head.Zone:=by simp [fz,hs]
  have e4:∀k,call Qhz [.agg [chains a.Chains,.list 51 (a.Forks.map xbk)],.one (I s.Head.Zone)] k=k [I (kI a l)]:=by
   have:=xsN a (fz l) hk.1
   rw [hz] at this
   unfold kI
   rw [hz]
   exact this
  obtain ⟨h0,hl,d,hd⟩:=xjl (p:=xmh (fz l)) (l:=a.Chains) hi
  have hd':a.Chains[(kI a l).toNat]? = some d:=hd
  have h0':0≤kI a l:=h0
  have hl':(kI a l).toNat<a.Chains.length:=hl
  have hC:=xqp hd'
  have hm:=hk.2.1 d (List.mem_of_getElem? hd)
  have e5:=xvt d l hm h
  have hlen:=xaM hs
  rw [hC]
  cases hf:xeh d l with
  | none =>
   rw [hf] at e5
   simp [-getElem?_pos,Qie,e1,e2,e3,c5,hs,e4,h0',hl',hd',e5,xc3]
  | some f =>
   rw [hf] at e5
   by_cases c6:(a.Forks.length:Int)<8
   ·simp [-getElem?_pos,Qie,e1,e2,e3,c5,hs,e4,h0',hl',hd',e5,xc3,c6,show a.Forks.length<1073741823 by omega]
    try (intro _;omega)
   ·simp [-getElem?_pos,Qie,e1,e2,e3,c5,hs,e4,h0',hl',hd',e5,xc3,c6]
 simp [Qie,e1,e2,e3,c1,c3,c5]) k
theorem xoN {R:(List PV→Prop)→List PV→Prop} {z:Int} {s:ByteArray} {now:Int} (l:List xaJ) (V:Nat→xaR→List Int→List PV) (fin:xaR×List Int×Option (Nat×xaJ)→Prop)
 (ha:∀a∈l,xbn a≤33554432)
 (h:∀i a k cs,l[i]? = some a→i<l.length→KB k→cs.length=i→∀K,R K (V i k cs)↔if xlO k a z s now=1 then fin ((xlU k a z).1,cs++[xlO k a z s now],some (i,a)) else K (V (i+1) (xlU k a z).1 (cs++[xlO k a z s now])))
 (hf:∀k cs K,R K (V l.length k cs)↔fin (k,cs,none)) (k:xaR) (hk:KB k):lp R (V 0 k [])↔fin (xeC z s now k [] 0 l):=by
 have key:∀(r:List xaJ) (i:Nat) (k:xaR) (cs:List Int),l.drop i=r→i≤l.length→KB k→cs.length=i→(lp R (V i k cs)↔fin (xeC z s now k cs i r)):=by
  intro r
  induction r with
  | nil =>
   intro i k cs hd hi hk hc
   have:i=l.length:=by
    have:=congrArg List.length hd
    simp at this;omega
   subst this
   exact xaP (hf k cs)
  | cons a r ih =>
   intro i k cs hd hi hk hc
   have hx:l[i]? = some a:=by
    have:=congrArg (fun q=>q[0]?) hd
    simpa using this
   have hlt:=xaM hx
   have hstep:=h i a k cs hx hlt hk hc
   rw [xeC]
   by_cases he:xlO k a z s now=1
   ·rw [if_pos he]
    exact xaP fun K=>by rw [hstep K,if_pos he]
   ·rw [if_neg he]
    refine (xch fun K=>by rw [hstep K,if_neg he]).trans ?_
    refine ih (i+1) _ _ ?_ (by omega) (xrM hk (ha a (List.mem_of_getElem? hx))) (by simp [hc])
    rw [←List.drop_drop,hd];rfl
 exact key l 0 k [] rfl (Nat.zero_le _) hk rfl
def xg4 (q:xaR×List Int×Option (Nat×xaJ)):xn2:=match q with
 | (k,cs,some (_,a))=>⟨k,a.Found,a.Entry,true,cs⟩
 | (k,cs,none)=>⟨k,false,xc1,false,cs⟩
def xql (q:xaR×List Int×Option (Nat×xaJ)):Int:=match q with
 | (_,_,some (i,_))=>i
 | (_,_,none)=>-1
theorem xoL {k:xaR} {a:xaJ} {z:Int} (h1:xaO a.Chain=true) (h2:fz a.Chain=z):xlU k a z=xc2 k a.Chain:=by
 unfold xlU;rw [if_pos (by simp [h1,h2])]
theorem xjT {k:xaR} {a:xaJ} {z:Int} (h:¬(xaO a.Chain=true∧fz a.Chain=z)):xlU k a z=(k,6):=by
 unfold xlU;rw [if_neg (by simpa using h)]
theorem xcc (cs:List Int) (c:Int):(ints (cs++[c]))=.list 1 (cs.map rI++[[I c]]):=by simp [rI]
theorem xj1 (k0:xaR) (l:List xaJ) (z:Int) (s:ByteArray) (now:Int) (hk:KB k0) (hl:l.length≤33554432) (ha:∀a∈l,xbn a≤33554432) (hs:s.size≤33554432) (k) :
 call Qkq [.agg (xbN k0),.one (.list 21 (l.map xax)),.one (I z),.one (.str s),.one (I now)] k=k (xga (xg4 (xeC z s now k0 [] 0 l))++[I (xql (xeC z s now k0 [] 0 l))]):=xaa (fun k=>by
 have e0:=xeu k0 hk
 simp only [Qkq,un,cur0]
 simp only [e0,xay,List.length_map,xag,xbq]
 refine xoN (z:=z) (s:=s) (now:=now) l (fun i k cs=>[I z,.str s,I now,I 0,.list 21 (l.map xax),I l.length,I i,.bool false,.str ⟨#[]⟩,I 0,I 0,.bool false,.bool false,.str ⟨#[]⟩,I 0,I 0,.bool false,.list 1 [],.list 1 [],.list 51 [],.list 1 [],ints cs,.list 1 [],chains k.Chains,.list 51 (k.Forks.map xbk)])
  (fun q=>k (xga (xg4 q)++[I (xql q)])) ha (fun i a k1 cs hx hi hk1 hc K=>?_) (fun k1 cs K=>?_) k0 hk
 ·have hm:=ha a (List.mem_of_getElem? hx)
  have e1:=xu7 z s a now hs hm
  have e2:=xn0 a.Chain (xbO hm).1
  have e3:=xkZ k1 a.Chain hk1 (xbO hm).1
  have e4:=xeL k1 z hk1
  have e5:=xeL (xc2 k1 a.Chain).1 z (xkp hk1 (xbO hm).1)
  have e6:=xlI a.Entry (xbO hm).2.1
  have hcl:cs.length+1<1073741824:=by omega
  by_cases h1:xaO a.Chain=true
  rotate_left
  ·have hM:=xjT (k:=k1) (z:=z) (fun q=>h1 q.1)
   unfold xlO
   rw [hM]
   simp only [show inR 6 1 3=false by decide,Bool.false_and,Bool.not_false,Bool.and_true]
   by_cases hA:xn4 z s a now=1
   ·simp [-getElem?_pos,xcc,Qkq_r0,hx,hi,e1,e2,h1,hA,xdC,show inR 6 1 3=false by decide,hcl,xal (show i<1000000000000000000 by omega)]
   ·simp [-getElem?_pos,xcc,Qkq_r0,hx,hi,e1,e2,h1,hA,xdC,show inR 6 1 3=false by decide,hcl,xal (show i<1000000000000000000 by omega)]
  obtain ⟨c0,hc0⟩:=xcj h1
  have hc0l:=xaM hc0
  have hfz:fz a.Chain=c0.Head.Zone:=by simp [fz,hc0]
  by_cases h2:c0.Head.Zone=z
  rotate_left
  ·have hM:=xjT (k:=k1) (a:=a) (z:=z) (fun q=>h2 (by rw [←hfz];exact q.2))
   unfold xlO
   rw [hM]
   simp only [show inR 6 1 3=false by decide,Bool.false_and,Bool.not_false,Bool.and_true]
   by_cases hA:xn4 z s a now=1
   ·simp [-getElem?_pos,xcc,Qkq_r0,hx,hi,e1,e2,h1,hc0,h2,hA,xdC,show inR 6 1 3=false by decide,hcl,xal (show i<1000000000000000000 by omega)]
   ·simp [-getElem?_pos,xcc,Qkq_r0,hx,hi,e1,e2,h1,hc0,h2,hA,xdC,show inR 6 1 3=false by decide,hcl,xal (show i<1000000000000000000 by omega)]
  have hM:=xoL (k:=k1) (z:=z) h1 (by rw [hfz];exact h2)
  unfold xlO
  rw [hM]
  by_cases hA:xn4 z s a now=1<;>by_cases hr:inR (xc2 k1 a.Chain).2 1 3=true<;>by_cases hF:xdS (xc2 k1 a.Chain).1 z=true
  all_goals try simp only [Bool.not_eq_true] at hr
  all_goals try simp only [Bool.not_eq_true] at hF
  all_goals simp [-getElem?_pos,xcc,Qkq_r0,hx,hi,e1,e2,e3,e5,e6,h1,hc0,h2,hA,hr,hF,xdC,hcl,xg4,xql,xal (show i<1000000000000000000 by omega)]
 ·simp [Qkq_r0,xg4,xql,xc1]
  rfl) k
theorem xjI (k0:xaR) (l:List xaJ) (z:Int) (s:ByteArray) (now:Int) (hk:KB k0) (hl:l.length≤33554432) (ha:∀a∈l,xbn a≤33554432) (hs:s.size≤33554432) (k) :
 call Qiu [.agg (xbN k0),.one (.list 21 (l.map xax)),.one (I z),.one (.str s),.one (I now)] k=k (xga (xg4 (xeC z s now k0 [] 0 l))):=xaa (fun k=>by
 have e0:=xfk k0 hk
 simp only [Qiu,un,cur0]
 simp only [e0,xag,xbq]
 refine xoN (z:=z) (s:=s) (now:=now) l (fun i k cs=>[.list 21 (l.map xax),I z,.str s,I now,I i,chains k.Chains,.list 51 (k.Forks.map xbk),.bool false,.str ⟨#[]⟩,I 0,I 0,.list 1 [],.bool false,.list 1 [],.list 51 [],.bool false,.str ⟨#[]⟩,I 0,I 0,.list 1 [],.bool false,.list 1 [],ints cs])
  (fun q=>k (xga (xg4 q))) ha (fun i a k1 cs hx hi hk1 hc K=>?_) (fun k1 cs K=>?_) k0 hk
 ·have hm:=ha a (List.mem_of_getElem? hx)
  have e1:=xvm z s a now hs hm
  have e2:=xrd a.Chain (xbO hm).1
  have e3:=xkw k1 a.Chain hk1 (xbO hm).1
  have e4:=xeA k1 z hk1
  have e5:=xeA (xc2 k1 a.Chain).1 z (xkp hk1 (xbO hm).1)
  have e6:=xlK a.Entry (xbO hm).2.1
  have hcl:cs.length+1<1073741824:=by omega
  have d6:inR 6 1 3=false:=by decide
  cases hL:xdr a.Chain with
  | none =>
   rw [hL] at e2
   have h1:=xji hL
   have hM:=xjT (k:=k1) (a:=a) (z:=z) (fun q=>by rw [h1] at q;cases q.1)
   unfold xlO
   rw [hM]
   simp only [d6,Bool.false_and,Bool.not_false,Bool.and_true]
   by_cases hA:xn4 z s a now=1
   ·simp [-getElem?_pos,xcc,Qiu_r0,hx,hi,e1,e2,xd6,hA,hcl,xal (show i<1000000000000000000 by omega)]
   ·simp [-getElem?_pos,xcc,Qiu_r0,hx,hi,e1,e2,xd6,hA,hcl,xal (show i<1000000000000000000 by omega)]
  | some p =>
   rw [hL] at e2
   obtain ⟨h1,hfz⟩:=xoV hL
   by_cases h2:p.Zone=z
   rotate_left
   ·have hM:=xjT (k:=k1) (a:=a) (z:=z) (fun q=>h2 (by rw [hfz];exact q.2))
    unfold xlO
    rw [hM]
    simp only [d6,Bool.false_and,Bool.not_false,Bool.and_true]
    by_cases hA:xn4 z s a now=1
    ·simp [-getElem?_pos,xcc,Qiu_r0,hx,hi,e1,e2,xd6,h2,hA,hcl,xal (show i<1000000000000000000 by omega)]
    ·simp [-getElem?_pos,xcc,Qiu_r0,hx,hi,e1,e2,xd6,h2,hA,hcl,xal (show i<1000000000000000000 by omega)]
   have hM:=xoL (k:=k1) (a:=a) (z:=z) h1 (by rw [←hfz];exact h2)
   unfold xlO
   rw [hM]
   generalize hq:xc2 k1 a.Chain=q at *
   obtain ⟨k2,m⟩:=q
   simp only at e3 e5 ⊢
   have key:(m=1∨m=2∨m=3)∧inR m 1 3=true∨(¬m=1∧¬m=2∧¬m=3)∧inR m 1 3=false:=by
    unfold inR
    by_cases q1:m=1
    ·subst q1;simp
    by_cases q2:m=2
    ·subst q2;simp
    by_cases q3:m=3
    ·subst q3;simp
    right
    simp [q1,q2,q3];omega
   by_cases hA:xn4 z s a now=1<;>by_cases hF:xdS k2 z=true
   all_goals try simp only [Bool.not_eq_true] at hF
   all_goals rcases key with ⟨q | q | q,hr⟩ | ⟨⟨q1,q2,q3⟩,hr⟩
   all_goals first
    | (subst q;simp [-getElem?_pos,xcc,Qiu_r0,hx,hi,e1,e2,e3,e5,e6,xd6,h2,hA,hr,hF,hcl,xg4,xga,xal (show i<1000000000000000000 by omega)];done)
    | (simp [-getElem?_pos,xcc,Qiu_r0,hx,hi,e1,e2,e3,e5,e6,xd6,h2,hA,hr,hF,q1,q2,q3,hcl,xg4,xga,xal (show i<1000000000000000000 by omega)];done)
 ·simp [Qiu_r0,xg4,xc1]
  rfl) k
end Go.Ev
