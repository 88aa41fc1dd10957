/- What each function hands back, and that the law answers true, part 2. -/
import Derived.Test.YtmhmcamcenidaaaGreatHum1
set_option linter.unusedVariables false
set_option linter.unusedSimpArgs false
set_option maxHeartbeats 8000000
set_option maxRecDepth 8000
namespace Go.Ev
open Go.Proofs
theorem xdJ {α:Type} {sz:Nat} {l:List α} {f:α→List PV} (h:∀x∈l,∀p∈f x,p.flat=true):xa4 (.list sz (l.map f)):=by
 intro r hr p hp
 obtain ⟨x,hx,rfl⟩:=List.mem_map.1 hr
 exact h x hx p hp
theorem xiR (l:List Int) (h:l.length≤33554432) (k):call Qdh [.one (ints l)] k=k [ints l]:=xaa (fun k=>by
 have hf:xa4 (ints l):=xdJ fun x _ p hp=>by simp [rI] at hp;subst hp;rfl
 have hb:0+(l.map rI).length<1073741824:=by rw [List.length_map];omega
 simp only [Qdh,xqf,xah,Bool.false_eq_true,if_false,if_true,xfV,hf,List.length_nil,hb,List.nil_append,xaw,xdo,xai,true_and,Nat.zero_le]
 refine ⟨fun q=>q.1,fun q=>⟨q,fun e=>?_⟩⟩
 simp only [Bool.not_false,if_true]
 have e2:=congrArg (PV.list 1) e
 rw [←e2];exact q) k
theorem xd5 (l:List ByteArray) (h:l.length≤33554432) (k):call Qdn [.one (strs l)] k=k [strs l]:=xaa (fun k=>by
 have hf:xa4 (strs l):=xdJ fun x _ p hp=>by simp [rS] at hp;subst hp;rfl
 have hb:0+(l.map rS).length<1073741824:=by rw [List.length_map];omega
 simp only [Qdn,xqf,xah,Bool.false_eq_true,if_false,if_true,xfV,hf,List.length_nil,hb,List.nil_append,xaw,xdo,xai,true_and,Nat.zero_le]
 refine ⟨fun q=>q.1,fun q=>⟨q,fun e=>?_⟩⟩
 simp only [Bool.not_false,if_true]
 have e2:=congrArg (PV.list 1) e
 rw [←e2];exact q) k
theorem xmS (l:List xfX) (h:l.length≤33554432) (k):call Qdk [.one (.list 2 (l.map xdf))] k=k [.list 2 (l.map xdf)]:=xaa (fun k=>by
 have hf:xa4 (.list 2 (l.map xdf)):=xdJ fun x _ p hp=>by simp [xdf] at hp;rcases hp with rfl | rfl<;>rfl
 have hb:0+(l.map xdf).length<1073741824:=by rw [List.length_map];omega
 simp only [Qdk,xqf,xah,Bool.false_eq_true,if_false,if_true,xfV,hf,List.length_nil,hb,List.nil_append,xaw,xdo,xai,true_and,Nat.zero_le]
 refine ⟨fun q=>q.1,fun q=>⟨q,fun e=>?_⟩⟩
 simp only [Bool.not_false,if_true]
 have e2:=congrArg (PV.list 2) e
 rw [←e2];exact q) k
theorem xkx {sz:Nat} {rows:List (List PV)} (h:rows.length≤33554432) (k:PV→Prop):xbh sz (.list sz rows) (.list sz []) k=k (.list sz rows):=by
 rw [xfV];simp;omega
theorem xtp (a:xb1) (h:xbk a≤33554432) (k):call Qdi [.agg (xcU a)] k=k (xcU a):=xaa (fun k=>by
 have e:=xiR a.Lst h
 simp [Qdi,e]) k
theorem xty (a:xb1) (h:xbk a≤33554432) (k):call Qbc [.agg (xcU a)] k=k (xcU a):=xaa (fun k=>by
 have h':(a.Lst.map rI).length≤33554432:=by rw [List.length_map];exact h
 simp only [Qbc,un,cur0,xkx h',xaw,xoE,xao,xai,xas,true_and]) k
theorem xuK (a:xa9) (h:xbx a≤33554432) (k):call Qdj [.agg (xbp a)] k=k (xbp a):=xaa (fun k=>by
 unfold xbx at h
 simp [Qdj,xtp a.Keys (by omega),xtp a.Heirs (by omega),xtp a.Judge (by omega)]) k
theorem xuW (a:xa9) (h:xbx a≤33554432) (k):call Qbd [.agg (xbp a)] k=k (xbp a):=xaa (fun k=>by
 unfold xbx at h
 simp [Qbd,xty a.Keys (by omega),xty a.Heirs (by omega),xty a.Judge (by omega)]) k
theorem xmO (a:xag) (h:xav a≤33554432) (k):call Qdl [.agg (xam a)] k=k (xam a):=xaa (fun k=>by
 unfold xav at h
 simp [Qdl,xuK a.Head (by omega),xmS a.Sigs (by omega)]) k
theorem xl3 (a:xag) (h:xav a≤33554432) (k):call Qbe [.agg (xam a)] k=k (xam a):=xaa (fun k=>by
 unfold xav at h
 have h':(a.Sigs.map xdf).length≤33554432:=by rw [List.length_map];omega
 simp only [Qbe,un,cur0,xuW a.Head (by omega),xkx h']
 simp) k
theorem xgm {l:List xag} (h:xar l≤33554432):l.length≤33554432∧∀x∈l,xav x≤33554432:=by
 unfold xar at h
 refine ⟨by omega,fun x hx=>?_⟩
 have:=xbn (s:=xav) hx
 omega
theorem xrC (l:List xag) (h:xar l≤33554432) (k):call Qdm [.one (.list 17 (l.map xam))] k=k [.list 17 (l.map xam)]:=xaa (fun k=>by
 obtain ⟨hl,hx0⟩:=xgm h
 simp only [Qdm,xaA,List.length_map,true_and,show (0:Nat)≤16777216 by omega]
 refine xby l (fun i=>[.list 17 (l.map xam),I l.length,I i,.list 17 [],.list 17 ((l.take i).map xam)]) (by simp) (fun i x hx hi K=>?_) fun K=>?_
 ·have e:=xmO x (hx0 x (List.mem_of_getElem? hx))
  rw [xaW hx,List.map_append]
  have hb:((l.take i).map xam).length+1<1073741824:=by simp;omega
  simp [-getElem?_pos,Qdm_r0,hx,hi,e,xal (show i<1000000000000000000 by omega)]
  omega
 ·simp [Qdm_r0]) k
theorem xrL (l:List xag) (h:xar l≤33554432) (k):call Qbf [.one (.list 17 (l.map xam))] k=k [.list 17 (l.map xam)]:=xaa (fun k=>by
 obtain ⟨hl,hx0⟩:=xgm h
 simp only [Qbf,true_and,show (0:Nat)≤16777216 by omega]
 refine xby l (fun i=>[.list 17 (l.map xam),I i,.list 17 [],.list 17 ((l.take i).map xam)]) (by simp) (fun i x hx hi K=>?_) fun K=>?_
 ·have e:=xl3 x (hx0 x (List.mem_of_getElem? hx))
  rw [xaW hx,List.map_append]
  simp [-getElem?_pos,Qbf_r0,hx,hi,e,xal (show i<1000000000000000000 by omega)]
  omega
 ·simp [Qbf_r0]) k
theorem xkF (a:xat) (h:xaz a≤33554432) (k):call Qdo [.agg (xaD a)] k=k (xaD a):=xaa (fun k=>by
 unfold xaz at h
 simp [Qdo,xd5 a.Path (by omega)]) k
theorem xrK (l:List ByteArray) (h:l.length≤33554432) (k):call Qbi [.one (strs l)] k=k [strs l]:=xaa (fun k=>by
 have hf:xa4 (strs l):=xdJ fun x _ p hp=>by simp [rS] at hp;subst hp;rfl
 have hb:0+(l.map rS).length<1073741824:=by rw [List.length_map];omega
 simp only [Qbi,xfV,hf,List.length_nil,hb,List.nil_append,xaw,xdo,xoE,xai,true_and,Nat.zero_le]) k
theorem xkG (a:xat) (h:xaz a≤33554432) (k):call Qbj [.agg (xaD a)] k=k (xaD a):=xaa (fun k=>by
 unfold xaz at h
 simp [Qbj,xrK a.Path (by omega)]) k
def inR (n a b:Int):Bool:=decide (a≤n)&&decide (n≤b)
theorem xdA (n a b:Int) (k):call Qdw [.one (I n),.one (I a),.one (I b)] k=k [.bool (inR n a b)]:=xaa (fun k=>by
 simp [Qdw,inR];split<;>simp [*]) k
theorem xeK (n a b:Int) (k):call Qbo [.one (I n),.one (I a),.one (I b)] k=k [.bool (inR n a b)]:=xaa (fun k=>by
 simp [Qbo,inR];split<;>simp [*]) k
theorem xbb {α:Type} {l:List α} {i:Nat} {x:α} (h:l[i]? = some x):x∈l:=List.mem_of_getElem? h
theorem xdm {i:Nat} (h0:0<i) (h:i<1000000000000000000):IntKind.i64.wrap ((i:Int)-1)=((i-1:Nat):Int):=by
 rw [xbK (by omega) (by omega)];omega
theorem xq0 {α:Type} {l:List α} {i:Nat} (d:α) (h:i<l.length):l[i]? = some (l.getD i d):=by
 rw [List.getD_eq_getElem?_getD,List.getElem?_eq_getElem h];rfl
def at0 (l:List Int) (i:Nat):Int:=l.getD i 0
theorem xiK {l:List Int} {i:Nat} (h:i<l.length):l[i]? = some (at0 l i):=xq0 0 h
def xqg (l:List Int) (i:Nat) (x:Int):Bool:=decide (0<i)&&decide (x≤at0 l (i-1))
def xrP (l:List Int):Bool:=!xe7 (xqg l) 0 l
theorem xwF (l:List Int) (h:l.length<1073741824) (k):call Qdz [.one (ints l)] k=k [.bool (xrP l)]:=xaa (fun k=>by
 simp [Qdz]
 have:=xhr (R:=fun L w=>Qdz_r0 w L (k [.bool false]) fun q8 q9 q10 q11=>k [.bool true]) k false l (fun i=>[ints l,.bool false,I l.length,I i]) (xqg l) rfl (fun i x hx hi K=>?_) fun K=>?_
 ·simpa [xrP] using this
 ·by_cases h0:0<i
  ·have hp:=xiK (l:=l) (show i-1<l.length by omega)
   simp [-getElem?_pos,Qdz_r0,hx,hi,h0,xdm h0 (show i<1000000000000000000 by omega),hp,xal (show i<1000000000000000000 by omega),xqg]
  ·have h1:i=0:=by omega
   subst h1
   simp [-getElem?_pos,Qdz_r0,hi,xqg,xbK]
 ·simp [Qdz_r0]) k
def xcL (x:Int):Bool:=inR x 1 99
theorem xuJ (x:Int) (k):call Qea [.one (I x)] k=k [.bool (xcL x)]:=xaa (fun k=>by simp [Qea,xdA,xcL]) k
def xcX (a:xb1):Bool:=inR a.Lst.length 1 4&&!(a.Lst.any (fun x=>!xcL x)||!xrP a.Lst)&&inR a.Need 1 a.Lst.length
theorem xrJ (a:xb1) (h:xbk a≤33554432) (k):call Qbp [.agg [ints a.Lst,I a.Need]] k=k [.bool (xcX a)]:=xaa (fun k=>by
 unfold xbk at h
 simp [Qbp]
 refine (xgH (P:=k [.bool false]) (fin:=k [.bool (inR a.Lst.length 1 4&&inR a.Need 1 a.Lst.length)]) a.Lst (fun j=>[.bool false,I j,ints a.Lst,I a.Need]) (fun j y=>!xcL y||xqg a.Lst j y) rfl (fun j y hy hj K=>?_) fun K=>?_).trans ?_
 ·by_cases h0:0<j
  ·have hp:=xiK (l:=a.Lst) (show j-1<a.Lst.length by omega)
   simp [-getElem?_pos,Qbp_r0,hy,hj,h0,xeK,xdm h0 (show j<1000000000000000000 by omega),hp,xal (show j<1000000000000000000 by omega),xqg,xcL]
   cases inR y 1 99<;>simp
  ·have h1:j=0:=by omega
   subst h1
   simp [-getElem?_pos,Qbp_r0,hy,hj,xqg,xeK,xcL,xbK]
 ·simp [Qbp_r0,xeK]
  cases inR (a.Lst.length:Int) 1 4<;>simp
 ·rw [xp0,xfn]
  unfold xcX xrP
  generalize a.Lst.any (fun x=>!xcL x)=b1
  generalize xe7 (xqg a.Lst) 0 a.Lst=b2
  cases b1<;>cases b2<;>simp) k
theorem xnD {l:List Int} (h:xrP l=true):∀{j i:Nat} {x y:Int},i<j→l[i]? = some x→l[j]? = some y→x<y:=by
 have h1:xe7 (xqg l) 0 l=false:=by unfold xrP at h;simpa using h
 rw [xfm] at h1
 have step:∀{j:Nat} {x y:Int},l[j]? = some x→l[j+1]? = some y→x<y:=by
  intro j x y hx hy
  have:=h1 (j+1) y hy
  simp [xqg] at this
  have h2:at0 l j=x:=by
   have:=xiK (xaK hx)
   rw [hx] at this;injection this with this;exact this.symm
  rw [h2] at this
  omega
 intro j
 induction j with
 | zero=>intro i x y hij;omega
 | succ j ih =>
  intro i x y hij hx hy
  have hj:j<l.length:=by have:=xaK hy;omega
  have hz:=List.getElem?_eq_getElem hj
  by_cases h2:i=j
  ·subst h2;exact step hx hy
  ·have a1:=ih (i:=i) (by omega) hx hz
   have a2:=step hz hy
   omega
theorem xpX {l:List Int} (h:xrP l=true) {x y:Int} (hx:l[0]? = some x) (hy:l[l.length-1]? = some y):(l.any fun z=>!xcL z)=(!(xcL x&&xcL y)):=by
 have hlast:∀{z:Int} {i:Nat},l[i]? = some z→x≤z∧z≤y:=by
  intro z i hz
  have hi:=xaK hz
  constructor
  ·by_cases h0:i=0
   ·subst h0;rw [hx] at hz;injection hz with hz;omega
   ·have:=xnD h (show 0<i by omega) hx hz;omega
  ·by_cases h0:i=l.length-1
   ·subst h0;rw [hy] at hz;injection hz with hz;omega
   ·have:=xnD h (show i<l.length-1 by omega) hz hy;omega
 cases hb:(xcL x&&xcL y) with
 | true =>
  simp only [Bool.and_eq_true,xcL,inR,decide_eq_true_eq] at hb
  rw [Bool.not_true,List.any_eq_false]
  intro z hz
  obtain ⟨i,hi⟩:=List.mem_iff_getElem?.1 hz
  have:=hlast hi
  simp [xcL,inR];omega
 | false =>
  rw [Bool.not_false,List.any_eq_true]
  by_cases hk:xcL x=true
  ·have hk2:xcL y=false:=by rw [hk] at hb;simpa using hb
   exact ⟨y,List.mem_of_getElem? hy,by simp [hk2]⟩
  ·exact ⟨x,List.mem_of_getElem? hx,by simpa using hk⟩
theorem xrB (a:xb1) (h:xbk a≤33554432) (k):call Qeb [.agg [ints a.Lst,I a.Need]] k=k [.bool (xcX a)]:=xaa (fun k=>by
 unfold xbk at h
 simp [Qeb,xdA,xcX]
 cases h1:inR a.Lst.length 1 4 with
 | false=>simp
 | true =>
  have h2:1≤a.Lst.length:=by unfold inR at h1;simp at h1;omega
  simp [xwF a.Lst (by omega)]
  cases h3:xrP a.Lst with
  | false=>simp
  | true =>
   have hx:=xiK (l:=a.Lst) (show 0<a.Lst.length by omega)
   have hy:=xiK (l:=a.Lst) (show a.Lst.length-1<a.Lst.length by omega)
   have hr:=xpX h3 hx hy
   rw [hr]
   simp [-getElem?_pos,hx,hy,xuJ,xdm (show 0<a.Lst.length by omega) (show a.Lst.length<1000000000000000000 by omega)]
   cases xcL (at0 a.Lst 0)<;>cases xcL (at0 a.Lst (a.Lst.length-1))<;>simp) k
deriving instance DecidableEq for xb1,xa9,xfX,xag,xfb,xat,xcv,xkI,xau,xb8,xaS,xa0,xsb,xu2,xce,xbH,xu0
theorem xti (l:List xag) (p:xag) (h:l.length≤33554432) (hp:l[l.length-1]? = some p) (k):call Qfk [.one (.list 17 (l.map xam))] k=k (xbp p.Head):=xaa (fun k=>by
 have h0:=xaK hp
 simp [-getElem?_pos,Qfk,xdm (show 0<l.length by omega) (show l.length<1000000000000000000 by omega),hp]) k
theorem xos {z:xb8} (h:xb0 z≤1048576):xar z.Chain≤1048576∧xbf z.Entries≤1048576:=by unfold xb0 at h;omega
theorem xjW {z:xb8} (h:xb0 z≤33554432):xar z.Chain≤33554432∧xbf z.Entries≤33554432:=by unfold xb0 at h;omega
theorem xg5 {l:List xat} (h:xbf l≤1048576):l.length≤1048576∧∀x∈l,xaz x≤1048576:=by
 unfold xbf at h
 refine ⟨by omega,fun x hx=>?_⟩
 have:=xbn (s:=xaz) hx
 omega
theorem xbj {l:List xat} (h:xbf l≤33554432):l.length≤33554432∧∀x∈l,xaz x≤33554432:=by
 unfold xbf at h
 refine ⟨by omega,fun x hx=>?_⟩
 have:=xbn (s:=xaz) hx
 omega
theorem xto (a:xcv) (h:xbo a≤33554432) (k):call Qdr [.agg (xcT a)] k=k (xcT a):=xaa (fun k=>by
 unfold xbo at h
 simp [Qdr,xiR a.Path h]) k
theorem xtx (a:xcv) (h:xbo a≤33554432) (k):call Qbk [.agg (xcT a)] k=k (xcT a):=xaa (fun k=>by
 unfold xbo at h
 have h':(a.Path.map rI).length≤33554432:=by rw [List.length_map];exact h
 simp only [Qbk,un,cur0,xkx h',xaw,xoE,xao,xai,xas,true_and]) k
theorem xwH (a:xkI) (h:xg0 a≤33554432) (k):call Qds [.agg (xl6 a)] k=k (xl6 a):=xaa (fun k=>by
 unfold xg0 at h
 simp [Qds,xkF a.Before (by omega),xkF a.After (by omega),xto a.Left (by omega),xto a.Right (by omega)]) k
theorem xwZ (a:xkI) (h:xg0 a≤33554432) (k):call Qbl [.agg (xl6 a)] k=k (xl6 a):=xaa (fun k=>by
 unfold xg0 at h
 simp [Qbl,xkG a.Before (by omega),xkG a.After (by omega),xtx a.Left (by omega),xtx a.Right (by omega)]) k
theorem xtn (a:xau) (h:xaL a≤33554432) (k):call Qdt [.agg (xax a)] k=k (xax a):=xaa (fun k=>by
 unfold xaL at h
 simp [Qdt,xrC a.Chain (by omega),xkF a.Entry (by omega),xto a.Proof (by omega),xwH a.Gap (by omega)]) k
theorem xtw (a:xau) (h:xaL a≤33554432) (k):call Qbm [.agg (xax a)] k=k (xax a):=xaa (fun k=>by
 unfold xaL at h
 simp [Qbm,xrL a.Chain (by omega),xkG a.Entry (by omega),xtx a.Proof (by omega),xwZ a.Gap (by omega)]) k
def xtS (n m:Int):Int:=if inR m 1 1000000000000=true then (wr (n.tmod m+m)).tmod m else 0
theorem xwE (n m:Int) (k):call Qeh [.one (I n),.one (I m)] k=k [I (xtS n m)]:=xaa (fun k=>by
 simp [Qeh,xtS,xdA]
 cases h:inR m 1 1000000000000
 ·simp
 ·have:m≠0:=by simp [inR] at h;omega
  simp [this]) k
theorem xwY (n m:Int) (k):call Qbt [.one (I n),.one (I m)] k=k [I (xtS n m)]:=xaa (fun k=>by
 simp [Qbt,xtS,xeK]
 cases h:inR m 1 1000000000000
 ·simp
 ·have:m≠0:=by simp [inR] at h;omega
  simp [this]) k
def xgd (acc v:Int):Int:=(wr (wr (wr (acc*1000003)+xtS v 2147483647)+13)).tmod 2147483647
def xdB (l:List Int):Int:=l.foldl xgd 11
theorem xmN (l:List Int) (hl:l.length<1000000000000000000) (k):call Qei [.one (ints l)] k=k [I (xdB l)]:=xaa (fun k=>by
 simp [Qei]
 refine xby l (fun i=>[I 0,I ((l.take i).foldl xgd 11),ints l,I l.length,I i]) rfl (fun i x hx hi K=>?_) fun K=>?_
 ·simp [-getElem?_pos,Qei_r0,hi,hx,xwE,xaW hx,xal (show i<1000000000000000000 by omega),xgd]
 ·simp [Qei_r0,xdB]) k
theorem xmP (l:List Int) (hl:l.length<1000000000000000000) (k):call Qbu [.one (ints l)] k=k [I (xdB l)]:=xaa (fun k=>by
 simp [Qbu]
 refine xby l (fun i=>[ints l,I 0,I ((l.take i).foldl xgd 11),I i]) rfl (fun i x hx hi K=>?_) fun K=>?_
 ·simp [-getElem?_pos,Qbu_r0,hi,hx,xwY,xaW hx,xal (show i<1000000000000000000 by omega),xgd]
 ·simp [Qbu_r0,xdB]) k
def b2i (b:UInt8):Int:=b.toNat
def xtF (s:List UInt8):List Int:=(s.length:Int)::s.map b2i
theorem xwo (s:List UInt8) (hl:s.length<1000000000) (k):call Qfv [.one (byts s)] k=k [ints (xtF s)]:=xaa (fun k=>by
 simp [Qfv]
 refine xby s (fun i=>[byts s,I s.length,I i,.list 1 [],ints ((s.length:Int)::(s.take i).map b2i)]) (by simp) (fun i x hx hi K=>?_) fun K=>?_
 ·have h2:min i s.length=i:=by omega
  simp [-getElem?_pos,Qfv_r0,hi,hx,xaW hx,xal (show i<1000000000000000000 by omega),b2i,h2]
  rw [and_iff_right (by omega)]
  simp [ints,rI,Function.comp_def]
 ·simp [Qfv_r0,xtF]) k
theorem xwM (s:List UInt8) (hl:s.length<1000000000) (k):call Qcu [.one (byts s)] k=k [ints (xtF s)]:=xaa (fun k=>by
 simp [Qcu]
 refine xby s (fun i=>[byts s,I i,.list 1 [],ints ((s.length:Int)::(s.take i).map b2i)]) (by simp) (fun i x hx hi K=>?_) fun K=>?_
 ·have h2:min i s.length=i:=by omega
  simp [-getElem?_pos,Qcu_r0,hi,hx,xaW hx,xal (show i<1000000000000000000 by omega),b2i,h2]
  rw [and_iff_right (by omega)]
  simp [ints,rI,Function.comp_def]
 ·simp [Qcu_r0,xtF]) k
def xbM (s:ByteArray):List Int:=xtF s.data.toList
theorem xuE (s:ByteArray) (hl:s.size<1000000000) (k):call Qfw [.one (.str s)] k=k [ints (xbM s)]:=xaa (fun k=>by
 simp [Qfw,xwo _ (show s.data.toList.length<1000000000 by simpa using hl),xbM]) k
theorem xuS (s:ByteArray) (hl:s.size<1000000000) (k):call Qcv [.one (.str s)] k=k [ints (xbM s)]:=xaa (fun k=>by
 simp [Qcv,xwM _ (show s.data.toList.length<1000000000 by simpa using hl),xbM]) k
theorem xb9 (s:ByteArray):(xbM s).length=s.size+1:=by simp [xbM,xtF]
theorem xdQ {α:Type} (f:α→Nat):∀(l:List α) (i:Nat) (x:α),l[i]? = some x→xbl f (l.take (i+1))=xbl f (l.take i)+f x
 | [],i,x,h=>by simp at h
 | a::l,0,x,h=>by simp at h;subst h;simp [xbl]
 | a::l,i+1,x,h=>by
  have:=xdQ f l i x (by simpa using h)
  simp only [List.take_succ_cons,xbl,this];omega
theorem xcI {α:Type} (f:α→Nat):∀(l:List α) (i:Nat),xbl f (l.take i)≤xbl f l
 | [],i=>by simp
 | a::l,0=>by simp [xbl]
 | a::l,i+1=>by
  have:=xcI f l i
  simp only [List.take_succ_cons,xbl];omega
theorem xeH {α:Type}:∀(ls:List (List α)),ls.flatten.length=xbl List.length ls
 | []=>rfl
 | l::ls=>by simp [xbl,xeH ls]
theorem xwB (n:Int) (h0:0≤n) (h:n<1073741824) (k):call Qel [.nil 3 1,.one (I n)] k=k [ints []]:=xaa (fun k=>by
 have w0:IntKind.i64.wrap 0=0:=xbK (by omega) (by omega)
 have w1:IntKind.i64.wrap n=n:=xbK (by omega) (by omega)
 simp [Qel,w0,w1,show ¬n<0 by omega,xgE,xf8,xfS]
 by_cases hn:0<n
 ·simp [hn,h,h0,show n≤1073741823 by omega,show 0≤max n 0 by omega,ints]
 ·simp [hn,ints]) k
theorem xct (l:List Int):xa4 (ints l):=by
 intro r hr p hp
 obtain ⟨x,_,rfl⟩:=List.mem_map.1 hr
 simp [rI] at hp
 subst hp;rfl
theorem xuI (ls:List (List Int)) (h:ls.length+xbl List.length ls<1000000000) (k):call Qem [.one (.list 1 (ls.map fun l=>[ints l]))] k=k [ints ls.flatten]:=xaa (fun k=>by
 simp only [Qem,xaA,List.length_map,xaf]
 let L:PV:=.list 1 (ls.map fun l=>[ints l])
 refine xby (fin:=k [ints ls.flatten]) ls (fun i=>[L,I ((xbl List.length (ls.take i):Nat):Int),L,I ls.length,I i,.list 1 []]) (by simp [xbl,L]) (fun i x hx hi K=>?_) (fun K=>?_)
 ·have e1:=xdQ List.length ls i x hx
  have e2:=xcI List.length ls (i+1)
  have w1:IntKind.i64.wrap (((xbl List.length (ls.take i):Nat):Int)+(x.length:Int))=((xbl List.length (ls.take (i+1)):Nat):Int):=by
   rw [e1];rw [xbK (by omega) (by omega)];omega
  simp [-getElem?_pos,Qem_r0,hx,hi,L,w1,xal (show i<1000000000000000000 by omega),show ¬(((xbl List.length (ls.take (i+1)):Nat):Int)<0) by omega]
 ·simp only [Qem_r0,un,cur0,xaq,xah,xaA,L,List.take_length]
  simp [xwB ((xbl List.length ls:Nat):Int) (by omega) (by omega)]
  refine xby (fin:=k [ints ls.flatten]) ls (fun i=>[L,I ((xbl List.length ls:Nat):Int),L,I ls.length,I ls.length,L,I ls.length,I i,ints (ls.take i).flatten,.list 1 []]) (by simp [L]) (fun i x hx hi K=>?_) fun K=>?_
  ·have e1:=xdQ List.length ls i x hx
   have e2:=xcI List.length ls (i+1)
   have e3:(ls.take (i+1)).flatten=(ls.take i).flatten++x:=by
    rw [List.take_add_one,hx];simp
   have e4:=xeH (ls.take i)
   have e5:(ls.take i).flatten.length+x.length<1073741824:=by omega
   show _↔K [L,I ((xbl List.length ls:Nat):Int),L,I ls.length,I ls.length,L,I ls.length,I ((i+1:Nat):Int),ints (ls.take (i+1)).flatten,.list 1 []]
   rw [e3]
   generalize (ls.take i).flatten=A at e5
   rw [show ints (A++x)=PV.list 1 (A.map rI++x.map rI) by simp [ints]]
   simp [-getElem?_pos,Qem_r1,hx,hi,L,xct,xbh,xal (show i<1000000000000000000 by omega),e5]
  ·simp [Qem_r1,L]) k
def xa3 (a:xb1):List Int:=a.Need::(a.Lst.length:Int)::a.Lst
def xrf (b:Bool):Int:=if b=true then 1 else 0
def xa2 (a:xa9):List Int :=
 [a.Zone,a.Epoch,a.Kind,a.Time,a.Until,a.Count,a.Root,a.Prev]++(xa3 a.Keys++(xa3 a.Heirs++([a.Wait]++(xa3 a.Judge++[xrf a.Frozen]))))
theorem xbF (n:Int):xae [.pv (I 0)] [.pv (I n)]:=by intro x hx;simp at hx;subst hx;rfl
theorem xrI (a:xb1) (h:xbk a≤33554432) (k):call Qbs [.agg (xcU a)] k=k [ints (xa3 a)]:=xaa (fun k=>by
 unfold xbk at h
 simp [Qbs,xa3,xct,xbF,xbh,show 2+a.Lst.length<1073741824 by omega]
 exact Iff.rfl) k
theorem xrA (a:xb1) (h:xbk a≤33554432) (k):call Qeg [.agg (xcU a)] k=k [ints (xa3 a)]:=xaa (fun k=>by
 unfold xbk at h
 simp [Qeg,xa3,xct,xbF,xbh,show 2+a.Lst.length<1073741824 by omega]
 exact Iff.rfl) k
theorem xwC (b:Bool) (k):call Qek [.one (.bool b)] k=k [I (xrf b)]:=xaa (fun k=>by
 cases b<;>simp [Qek,xrf]) k
theorem xb3 (a:xb1):(xa3 a).length=2+a.Lst.length:=by simp [xa3];omega
theorem xr0 (i:Nat):xae [.nil 3 1] [.own i]:=by intro x hx;simp at hx;subst hx;trivial
theorem xrz (a:xa9) (h:xbx a≤33554432) (k):call Qen [.agg (xbp a)] k=k [ints (xa2 a)]:=xaa (fun k=>by
 unfold xbx at h
 have k1:=xrA a.Keys (by omega)
 have k2:=xrA a.Heirs (by omega)
 have k3:=xrA a.Judge (by omega)
 have l1:=xb3 a.Keys
 have l2:=xb3 a.Heirs
 have l3:=xb3 a.Judge
 unfold xbk at h
 have c:=xuI [[a.Zone,a.Epoch,a.Kind,a.Time,a.Until,a.Count,a.Root,a.Prev],xa3 a.Keys,xa3 a.Heirs,[a.Wait],xa3 a.Judge,[xrf a.Frozen]] (by
  simp only [xbl,List.length_cons,List.length_nil,l1,l2,l3];omega) (fun o=>k [atP o 0])
 simp only [Qen,un,cur0,k1,k2,k3,xwC,xbF,xr0,xaf,true_and,and_true,xaw,xdo,show (1:Nat)≤16777216 by omega,show (2:Nat)≤16777216 by omega,show (6:Nat)≤16777216 by omega,show (8:Nat)≤16777216 by omega,xai]
 exact iff_of_eq c) k
theorem xqb (a:xa9) (h:xbx a≤33554432) (k):call Qbw [.agg (xbp a)] k=k [ints (xa2 a)]:=xaa (fun k=>by
 unfold xbx at h
 have k1:=xrI a.Keys (by omega)
 have k2:=xrI a.Heirs (by omega)
 have k3:=xrI a.Judge (by omega)
 have l1:=xb3 a.Keys
 have l2:=xb3 a.Heirs
 have l3:=xb3 a.Judge
 unfold xbk at h
 simp only [Qbw,un,cur0,k1,k2,k3,xbF,xaf,true_and,and_true,xaw,show (8:Nat)≤16777216 by omega,xai]
 have e:ints (xa2 a)=PV.list 1 (([[I a.Zone],[I a.Epoch],[I a.Kind],[I a.Time],[I a.Until],[I a.Count],[I a.Root],[I a.Prev]]++((xa3 a.Keys).map rI++((xa3 a.Heirs).map rI++([[I a.Wait]]++((xa3 a.Judge).map rI++[[I (xrf a.Frozen)]])))))):=by
  simp [ints,xa2]
 rw [e]
 cases hf:a.Frozen<;>simp [xbh,l1,l2,l3,xbF,xrf]
 all_goals exact ⟨fun h=>h.2.2.2.2.2,fun h=>⟨by omega,by omega,by omega,by omega,by omega,h⟩⟩) k
theorem xjw {α:Type} [DecidableEq α] {eq:α→α→Bool} (h:∀x y,eq x y=decide (x=y)):∀(l m:List α),xdw eq l m=decide (l=m)
 | [],[]=>by simp [xdw]
 | [],y::m=>by simp [xdw]
 | x::l,[]=>by simp [xdw]
 | x::l,y::m=>by rw [xdw,xjw h l m,h];simp [Bool.decide_and]
abbrev eqD {α:Type} [DecidableEq α] (x y:α):Bool:=decide (x=y)
theorem xff {α:Type} [DecidableEq α] (l m:List α):xdw eqD l m=decide (l=m):=xjw (fun _ _=>rfl) l m
theorem xjx {α:Type} [DecidableEq α] {l m:List α} (h:¬l.length=m.length):decide (l=m)=false:=by simp;intro e;subst e;exact h rfl
theorem xtk (l m:List Int) (h:l.length<1073741824) (k):call Qfb [.one (ints l),.one (ints m)] k=k [.bool (decide (l=m))]:=xaa (fun k=>by
 simp [Qfb]
 by_cases hl:l.length=m.length
 ·rw [←xff]
  simp [hl]
  refine xgG k l m (fun i=>[ints l,ints m,.bool false,I m.length,I i]) eqD rfl hl (fun i x y hx hy hi hj K=>?_) fun K=>?_
  ·simp [-getElem?_pos,Qfb_r0,hx,hy,hj,xal (show i<1000000000000000000 by omega)]
  ·simp [Qfb_r0,hl]
 ·simp [show ¬(l.length:Int)=m.length by omega,xjx hl]) k
theorem xts (l m:List Int) (h:l.length<1073741824) (k):call Qcf [.one (ints l),.one (ints m)] k=k [.bool (decide (l=m))]:=xaa (fun k=>by
 simp [Qcf]
 by_cases hl:l.length=m.length
 ·rw [←xff]
  simp [hl]
  refine xgG k l m (fun i=>[ints l,ints m,.bool false,I i]) eqD rfl hl (fun i x y hx hy hi hj K=>?_) fun K=>?_
  ·simp [-getElem?_pos,Qcf_r0,hx,hy,hi,xal (show i<1000000000000000000 by omega)]
  ·simp [Qcf_r0]
 ·simp [show ¬(l.length:Int)=m.length by omega,xjx hl]) k
theorem xmM (a b:xb1) (h:xbk a≤33554432) (k):call Qfc [.agg (xcU a),.agg (xcU b)] k=k [.bool (decide (a=b))]:=xaa (fun k=>by
 unfold xbk at h
 obtain ⟨l,n⟩:=a
 obtain ⟨m,q⟩:=b
 simp [Qfc,xtk l m (by simp at h;omega)]
 by_cases hl:l=m<;>by_cases hn:n=q<;>simp [hl,hn,show (n==q)=decide (n=q) from rfl]) k
theorem xc5 (a:xa9):(xa2 a).length=16+xbx a:=by simp [xa2,xa3,xbx,xbk];omega
theorem xcb {b c:Bool} {P:Prop} {k:List PV→Prop} (h:b=true→(P↔k [.bool c])):(if b=true then P else k [.bool false])↔k [.bool (b&&c)]:=by
 cases b
 ·simp
 ·simpa using h rfl
theorem xhF {b c:Bool} {P:Prop} {k:List PV→Prop} (h:b=true→(P↔k [.bool c])):(if (!b)=true then k [.bool false] else P)↔k [.bool (b&&c)]:=by
 cases b
 ·simp
 ·simpa using h rfl
def sNo (a:xb1):Bool:=decide (a.Need=0)&&decide (a.Lst.length=0)
theorem xom (a:xb1) (k):call Qec [.agg (xcU a)] k=k [.bool (sNo a)]:=xaa (fun k=>by
 have e:((a.Lst.length:Int)==0)=decide (a.Lst.length=0):=by
  by_cases h:a.Lst.length=0
  ·rw [h];rfl
  ·rw [decide_eq_false h];exact beq_eq_false_iff_ne.2 (by omega)
 simp only [Qec,un,cur0,xaG,xaA,List.length_map,e,sNo,xah,xaw,xao,xai,xan,true_and,and_true]
 by_cases h:a.Need=0<;>simp [h]) k
theorem xtv (a:xb1) (k):call Qbq [.agg (xcU a)] k=k [.bool (sNo a)]:=xaa (fun k=>by
 have e:((a.Lst.length:Int)==0)=decide (a.Lst.length=0):=by
  by_cases h:a.Lst.length=0
  ·rw [h];rfl
  ·rw [decide_eq_false h];exact beq_eq_false_iff_ne.2 (by omega)
 simp only [Qbq,un,cur0,xaG,xaA,List.length_map,e,sNo,xah,xaw,xao,xai,xan,true_and,and_true]
 by_cases h:a.Need=0<;>simp [h]) k
theorem xmZ {a:xb1} (h:sNo a=true):xcX a=false:=by
 unfold sNo at h
 simp only [Bool.and_eq_true,decide_eq_true_eq] at h
 unfold xcX inR
 simp [h.2]
def xkW (a:xb1):Bool:=sNo a||xcX a
def xm0 (a:xa9):Bool:=xcX a.Judge||(sNo a.Judge&&!a.Frozen)
def xsq (a:xa9):Bool:=if sNo a.Heirs=true then decide (a.Wait=0)&&xm0 a else xcX a.Heirs&&(inR a.Wait 1 500&&xm0 a)
def xcD (a:xa9):Bool :=
 inR a.Zone 0 2147483646&&(inR a.Root 0 2147483646&&(inR a.Prev 0 2147483646&&(inR a.Epoch 0 200&&(inR a.Kind 1 3&&(inR a.Time 0 100000&&(inR a.Until a.Time 100000&&(decide (a.Until-a.Time≤200) &&
 (inR a.Count 0 12&&(xcX a.Keys&&xsq a)))))))))
theorem xda {a:xa9} (h:xbx a≤33554432):xbk a.Keys≤33554432∧xbk a.Heirs≤33554432∧xbk a.Judge≤33554432:=by unfold xbx at h;omega
theorem xtu (a:xa9) (h:xbx a≤33554432) (k):call Qbr [.agg (xbp a)] k=k [.bool (xcD a)]:=xaa (fun k=>by
 obtain ⟨h1,h2,h3⟩:=xda h
 have e1:=xrJ a.Keys h1
 have e2:=xrJ a.Heirs h2
 have e3:=xrJ a.Judge h3
 simp only [Qbr,un,cur0,xeK,e1,e2,e3,xtv,xba,xaf,xah,xaw,xao,xai,xan,true_and,and_true,xbB,xbJ]
 refine xhF fun _=>xhF fun _=>xhF fun _=>xhF fun _=>xhF fun _=>xhF fun ht=>xhF fun hu=>?_
 have hw:IntKind.i64.wrap (a.Until-a.Time)=a.Until-a.Time:=by
  simp only [inR,Bool.and_eq_true,decide_eq_true_eq] at ht hu
  exact xbK (by omega) (by omega)
 rw [hw,show decide (200<a.Until-a.Time)=!decide (a.Until-a.Time≤200) by by_cases h:a.Until-a.Time≤200<;>simp [h]<;>omega]
 refine xhF fun _=>xhF fun _=>xhF fun _=>?_
 unfold xsq xm0
 cases sNo a.Heirs<;>cases xcX a.Heirs<;>cases inR a.Wait 1 500<;>cases xcX a.Judge<;>cases sNo a.Judge<;>cases a.Frozen<;>by_cases hz:a.Wait=0<;>simp [hz]) k
theorem xsD:∀(nh kh nj kj wt w0 fr:Bool) (h1:nh=true→kh=false) (h2:nj=true→kj=false),((nh||kh)&&((nj||kj)&&((if nh=true then w0 else wt)&&!(fr&&nj))))=(if nh=true then w0&&(kj||(nj&&!fr)) else kh&&(wt&&(kj||(nj&&!fr)))):=by decide
theorem xtm (a:xa9) (h:xbx a≤33554432) (k):call Qef [.agg (xbp a)] k=k [.bool (xcD a)]:=xaa (fun k=>by
 obtain ⟨h1,h2,h3⟩:=xda h
 have e1:=xrB a.Keys h1
 have e2:=xrB a.Heirs h2
 have e3:=xrB a.Judge h3
 have d:∀x k,call Qdx [.one (I x)] k=k [.bool (inR x 0 2147483646)]:=fun x=>xaa (fun k=>by simp [Qdx,xdA])
 have m2:∀k,call Qed [.agg (xcU a.Heirs)] k=k [.bool (xkW a.Heirs)]:=xaa (fun k=>by
  simp [Qed,xom,e2,xkW];cases sNo a.Heirs<;>simp)
 have m3:∀k,call Qed [.agg (xcU a.Judge)] k=k [.bool (xkW a.Judge)]:=xaa (fun k=>by
  simp [Qed,xom,e3,xkW];cases sNo a.Judge<;>simp)
 have m4:∀k,call Qee [.one (I a.Wait),.agg (xcU a.Heirs)] k=k [.bool (if sNo a.Heirs=true then decide (a.Wait=0) else inR a.Wait 1 500)]:=xaa (fun k=>by
  simp [Qee,xom,xdA];cases sNo a.Heirs<;>simp
  by_cases hz:a.Wait=0
  ·simp [hz]
  ·rw [show (a.Wait==0)=false from beq_eq_false_iff_ne.2 hz];simp [hz])
 have m5:∀k,call Qdy [.agg (xbp a)] k=k [.bool (inR a.Time 0 100000&&(inR a.Until a.Time 100000&&decide (a.Until-a.Time≤200)))]:=xaa (fun k=>by
  simp only [Qdy,un,cur0,xcf,xfl,xbB,xah,xaw,xao,xai,xan,true_and,and_true]
  by_cases c1:0≤a.Time
  ·by_cases c2:a.Time≤a.Until
   ·by_cases c3:a.Until≤100000
    ·rw [xbK (show -9223372036854775808≤a.Until-a.Time by omega) (by omega)]
     simp [c1,c2,c3,inR,show a.Time≤100000 by omega]
    ·simp [c1,c2,c3,inR]
   ·simp [c1,c2,inR]
  ·simp [c1,inR])
 simp only [Qef,un,cur0,d,xdA,e1,m2,m3,m4,m5,xom,xba,xaf,xah,xaw,xao,xai,xan,true_and,and_true]
 have key:∀z r p e q sp c ks mh mj wt no fr:Bool,(if z=true then if r=true then if p=true then if e=true then if q=true then if sp=true then if c=true then if ks=true then if mh=true then if mj=true then if wt=true then
  if fr=true then k [.bool !no] else k [.bool true] else k [.bool false] else k [.bool false] else k [.bool false] else k [.bool false] else k [.bool false] else k [.bool false] else k [.bool false] else k [.bool false] else k [.bool false] else k [.bool false] else k [.bool false]) ↔
  k [.bool (z&&(r&&(p&&(e&&(q&&(sp&&(c&&(ks&&(mh&&(mj&&(wt&&!(fr&&no))))))))))))]:=by
  intro z r p e q sp c ks mh mj wt no fr
  refine xcb fun _=>xcb fun _=>xcb fun _=>xcb fun _=>xcb fun _=>xcb fun _=>xcb fun _=>xcb fun _=>xcb fun _=>xcb fun _=>xcb fun _=>?_
  cases fr<;>simp
 refine (key _ _ _ _ _ _ _ _ _ _ _ _ _).trans ?_
 apply iff_of_eq
 congr 3
 unfold xcD xsq xm0 xkW
 simp only [Bool.and_assoc]
 rw [xsD _ _ _ _ _ _ _ (@xmZ a.Heirs) (@xmZ a.Judge)]) k
theorem xd4 (a b:Int):(a==b)=decide (a=b):=by
 by_cases h:a=b
 ·subst h;simp
 ·rw [decide_eq_false h];exact beq_eq_false_iff_ne.2 h
def sKH (key:Int) (m:List Int):Int:=xdB (key::(m++[key]))
theorem xwA (key:Int) (m:List Int) (h:m.length<900000000) (k):call Qeo [.one (I key),.one (ints m)] k=k [I (sKH key m)]:=xaa (fun k=>by
 have e:∀k,call Qem [.one (.list 1 [[.list 1 [[I key]]],[ints m],[.list 1 [[I key]]]])] k=k [ints (key::(m++[key]))]:=fun k=>by
  have:=xuI [[key],m,[key]] (by simp [xbl];omega) k
  simpa [ints] using this
 have e2:=xmN (key::(m++[key])) (by simp;omega)
 simp only [Qeo,un,cur0,xbF,xr0,true_and,e,xaf,e2,xaw,xao,xai,xas]
 simp [sKH]) k
theorem xwW (key:Int) (m:List Int) (h:m.length<900000000) (k):call Qbx [.one (I key),.one (ints m)] k=k [I (sKH key m)]:=xaa (fun k=>by
 have e2:=xmP (key::(m++[key])) (by simp;omega)
 have e3:(PV.list 1 ([I key]::(m.map rI++[[I key]])))=ints (key::(m++[key])):=by simp [ints]
 simp [Qbx,xbF,xct,xbh,show 1+m.length<1073741824 by omega]
 rw [e3,e2]
 simp [sKH]
 try (intros;omega)) k
def xsr (key:Int) (m:List Int):Int:=sKH key (223::m)
theorem xwz (key:Int) (m:List Int) (h:m.length<800000000) (k):call Qep [.one (I key),.one (ints m)] k=k [I (xsr key m)]:=xaa (fun k=>by
 have e2:=xwA key (223::m) (by simp;omega)
 have e3:PV.list 1 ([I 223]::m.map rI)=ints (223::m):=by simp [ints]
 simp [Qep,xbF,xct,xbh,show 1+m.length<1073741824 by omega]
 rw [e3,e2]
 simp [xsr]
 try (intros;omega)) k
theorem xwV (key:Int) (m:List Int) (h:m.length<800000000) (k):call Qby [.one (I key),.one (ints m)] k=k [I (xsr key m)]:=xaa (fun k=>by
 have e2:=xwW key (223::m) (by simp;omega)
 have e3:PV.list 1 ([I 223]::m.map rI)=ints (223::m):=by simp [ints]
 simp [Qby,xbF,xct,xbh,show 1+m.length<1073741824 by omega]
 rw [e3,e2]
 simp [xsr]
 try (intros;omega)) k
def xhS (a:xa9):Int:=xdB (233::xa2 a)
theorem xwv (a:xa9) (h:xbx a≤33554432) (k):call Qey [.agg (xbp a)] k=k [I (xhS a)]:=xaa (fun k=>by
 have hl:=xc5 a
 have e1:=xrz a h
 have e2:=xmN (233::xa2 a) (by simp;omega)
 have e3:PV.list 1 ([I 233]::(xa2 a).map rI)=ints (233::xa2 a):=by simp [ints]
 simp [Qey,xbF,e1,xbh,show 1+(xa2 a).length<1073741824 by omega]
 rw [e3,e2]
 simp [xhS]
 try (intros;omega)) k
theorem xwS (a:xa9) (h:xbx a≤33554432) (k):call Qcd [.agg (xbp a)] k=k [I (xhS a)]:=xaa (fun k=>by
 have hl:=xc5 a
 have e1:=xqb a h
 have e2:=xmP (233::xa2 a) (by simp;omega)
 have e3:PV.list 1 ([I 233]::(xa2 a).map rI)=ints (233::xa2 a):=by simp [ints]
 simp [Qcd,xbF,e1,xbh,show 1+(xa2 a).length<1073741824 by omega]
 rw [e3,e2]
 simp [xhS]
 try (intros;omega)) k
def xhM (a:xb1) (salt:Int):Int:=xdB (239::salt::xa3 a)
theorem xwD (a:xb1) (salt:Int) (h:xbk a≤33554432) (k):call Qej [.agg (xcU a),.one (I salt)] k=k [I (xhM a salt)]:=xaa (fun k=>by
 have hl:=xb3 a
 have h':=h
 unfold xbk at h'
 have e1:=xrA a h
 have e2:=xmN (239::salt::xa3 a) (by simp;omega)
 have e3:PV.list 1 ([I 239]::[I salt]::(xa3 a).map rI)=ints (239::salt::xa3 a):=by simp [ints]
 simp [Qej,xbF,e1,xbh,show 2+(xa3 a).length<1073741824 by omega]
 rw [e3,e2]
 simp [xhM]
 try (intros;omega)) k
theorem xwX (a:xb1) (salt:Int) (h:xbk a≤33554432) (k):call Qbv [.agg (xcU a),.one (I salt)] k=k [I (xhM a salt)]:=xaa (fun k=>by
 have hl:=xb3 a
 have h':=h
 unfold xbk at h'
 have e1:=xrI a h
 have e2:=xmP (239::salt::xa3 a) (by simp;omega)
 have e3:PV.list 1 ([I 239]::[I salt]::(xa3 a).map rI)=ints (239::salt::xa3 a):=by simp [ints]
 simp [Qbv,xbF,e1,xbh,show 2+(xa3 a).length<1073741824 by omega]
 rw [e3,e2]
 simp [xhM]
 try (intros;omega)) k
def xoI (m:List Int) (s:xfX):Bool:=xcL s.Key&&decide (s.Tag=xsr s.Key m)
theorem xwy (s:xfX) (m:List Int) (h:m.length<800000000) (k):call Qeq [.agg (xdf s),.one (ints m)] k=k [.bool (xoI m s)]:=xaa (fun k=>by
 have e:=xwz s.Key m h
 simp only [Qeq,un,cur0,xuJ,e,xaf,xaG,xah,xaw,xao,xai,xan,true_and,and_true]
 exact xcb (c:=decide (s.Tag=xsr s.Key m)) fun _=>by rw [xd4]) k
theorem xwU (s:xfX) (m:List Int) (h:m.length<800000000) (k):call Qbz [.agg (xdf s),.one (ints m)] k=k [.bool (xoI m s)]:=xaa (fun k=>by
 have e:=xwV s.Key m h
 simp only [Qbz,un,cur0,xeK,e,xaf,xaG,xah,xaw,xao,xai,xan,true_and,and_true]
 exact xcb (b:=xcL s.Key) (c:=decide (s.Tag=xsr s.Key m)) fun _=>by rw [xd4]) k
def xl4 (m:List Int) (key:Int) (s:xfX):Bool:=decide (s.Key=key)&&xoI m s
def xkX (a:xb1) (m:List Int) (l:List xfX):Nat:=a.Lst.countP fun key=>l.any (xl4 m key)
theorem xdS (l:List xfX) (key:Int) (m:List Int) (hl:l.length≤33554432) (h:m.length<800000000) (k):call Qet [.one (.list 2 (l.map xdf)),.fn 433 [.cells [I key],.cells [ints m]]] k=k [.bool (l.any (xl4 m key))]:=xaa (fun k=>by
 have e:∀k,call Qes [.one (.list 2 (l.map xdf)),.fn 433 [.cells [I key],.cells [ints m]]] k=k [I (idx (xl4 m key) l)]:=xaa (fun k=>by
  simp [Qes]
  refine xdv (Q:=fun i=>k [I i]) l (fun i=>[.list 2 (l.map xdf),I key,ints m,I 0,I l.length,I i]) (xl4 m key) rfl (fun i x hx hi K=>?_) fun K=>?_
  ·have e1:∀k,call Qer [.agg (xdf x),.ro (.cells [I key]),.ro (.cells [ints m])] k=k [.bool (xl4 m key x)]:=xaa (fun k=>by
    have e:=xwy x m h
    simp only [Qer,un,cur0,xaG,e,xaf,xah,xaw,xao,xai,xan,true_and,and_true]
    by_cases hk:x.Key=key<;>simp [hk,xl4])
   simp [-getElem?_pos,Qes_r0,hx,hi,e1,xal (show i<1000000000000000000 by omega)]
  ·simp [Qes_r0])
 simp [Qet,e,xmq]) k
theorem xwx (a:xb1) (m:List Int) (l:List xfX) (h:xbk a≤33554432) (hm:m.length<800000000) (hl:l.length≤33554432) (k):call Qeu [.agg (xcU a),.one (ints m),.one (.list 2 (l.map xdf))] k=k [I (xkX a m l)]:=xaa (fun k=>by
 unfold xbk at h
 simp [Qeu]
 refine xby a.Lst (fun i=>[.list 2 (l.map xdf),I 0,I ((a.Lst.take i).countP fun key=>l.any (xl4 m key):Nat),ints a.Lst,I a.Lst.length,I i,ints m]) rfl (fun i x hx hi K=>?_) fun K=>?_
 ·have hc:(a.Lst.take i).countP (fun key=>l.any (xl4 m key))≤i:=Nat.le_trans List.countP_le_length (by simp;omega)
  have e:=xdS l x m hl hm
  simp only [Qeu_r0,un,cur0,xaq,xah,show decide ((i:Int)<a.Lst.length)=true by simp;omega,if_true,xaj,ints,List.getElem?_map,hx,Int.toNat_natCast,Option.map_some,true_and,xaf,rI]
  rw [show PV.list 1 (m.map fun n=>[I n])=ints m from rfl]
  simp only [e,xaf,xah,xbd,xal (show i<1000000000000000000 by omega),xal (show (a.Lst.take i).countP (fun key=>l.any (xl4 m key))<1000000000000000000 by omega)]
  rw [xaW hx,List.countP_append,List.countP_cons,List.countP_nil]
  cases hb:l.any (xl4 m x)<;>simp [hb]
 ·simp [Qeu_r0,xkX]) k
theorem xwT (a:xb1) (m:List Int) (l:List xfX) (h:xbk a≤33554432) (hm:m.length<800000000) (hl:l.length≤33554432) (k):call Qca [.agg (xcU a),.one (ints m),.one (.list 2 (l.map xdf))] k=k [I (xkX a m l)]:=xaa (fun k=>by
 unfold xbk at h
 simp only [Qca,un,cur0,xaw,xao,xai,xas,true_and]
 refine xby a.Lst (fun i=>[ints m,.list 2 (l.map xdf),I 0,I ((a.Lst.take i).countP fun key=>l.any (xl4 m key):Nat),I i,ints a.Lst,I a.Need]) rfl (fun i x hx hi K=>?_) fun K=>?_
 ·have hc:(a.Lst.take i).countP (fun key=>l.any (xl4 m key))≤i:=Nat.le_trans List.countP_le_length (by simp;omega)
  simp [-getElem?_pos,Qca_r0,hi]
  rw [xaW hx,List.countP_append,List.countP_cons,List.countP_nil]
  generalize hn:(a.Lst.take i).countP (fun key=>l.any (xl4 m key))=n at hc
  refine (xpf (P:=K [ints m,.list 2 (l.map xdf),I 0,I ((n+1:Nat):Int),I ((i+1:Nat):Int),ints a.Lst,I a.Need]) (fin:=K [ints m,.list 2 (l.map xdf),I 0,I (n:Int),I ((i+1:Nat):Int),ints a.Lst,I a.Need]) l (fun j=>[ints m,.list 2 (l.map xdf),I 0,I (n:Int),I i,I j,ints a.Lst,I a.Need]) (xl4 m x) rfl (fun j y hy hj K=>?_) fun K=>?_).trans ?_
  ·have e:=xwU y m hm
   simp [-getElem?_pos,Qca_r1,hx,hy,hj,e,xl4,xal (show j<1000000000000000000 by omega),xal (show n<1000000000000000000 by omega),xal (show i<1000000000000000000 by omega)]
   by_cases hk:y.Key=x<;>simp [hk]
  ·simp [Qca_r1,xal (show i<1000000000000000000 by omega)]
  ·cases hb:l.any (xl4 m x)<;>simp [hb]
 ·simp [Qca_r0,xkX]) k
def xhR (a:xb1) (m:List Int) (l:List xfX):Bool:=xcX a&&decide (a.Need≤(xkX a m l:Int))
theorem xww (a:xb1) (m:List Int) (l:List xfX) (h:xbk a≤33554432) (hm:m.length<800000000) (hl:l.length≤33554432) (k):call Qev [.agg (xcU a),.one (ints m),.one (.list 2 (l.map xdf))] k=k [.bool (xhR a m l)]:=xaa (fun k=>by
 have e1:=xrB a h
 have e2:=xwx a m l h hm hl
 simp only [Qev,un,cur0,e1,e2,xaf,xah,xaw,xao,xai,xan,true_and,and_true,xcf]
 exact xcb fun _=>Iff.rfl) k
theorem xrH (a:xb1) (m:List Int) (l:List xfX) (h:xbk a≤33554432) (hm:m.length<800000000) (hl:l.length≤33554432) (k):call Qcb [.agg (xcU a),.one (ints m),.one (.list 2 (l.map xdf))] k=k [.bool (xhR a m l)]:=xaa (fun k=>by
 have e1:=xrJ a h
 have e2:=xwT a m l h hm hl
 simp only [Qcb,un,cur0,e1,e2,xaf,xah,xaw,xao,xai,xan,true_and,and_true,xcf]
 exact xcb fun _=>Iff.rfl) k
theorem xa5 {s:xag} (h:xav s≤33554432):xbx s.Head≤33554432∧s.Sigs.length≤33554432∧(xa2 s.Head).length<800000000:=by
 have hl:=xc5 s.Head
 unfold xav at h
 omega
def sBy (s:xag) (a:xb1):Bool:=xhR a (xa2 s.Head) s.Sigs
theorem xcr (s:xag) (a:xb1) (h:xav s≤33554432) (ha:xbk a≤33554432) (k):call Qew [.agg (xam s),.agg (xcU a)] k=k [.bool (sBy s a)]:=xaa (fun k=>by
 obtain ⟨h1,h2,h3⟩:=xa5 h
 have e1:=xrz s.Head h1
 have e2:=xww a (xa2 s.Head) s.Sigs ha h3 h2
 simp only [Qew,un,cur0,e1,e2,xaf,xaw,xao,xai,xan,true_and,and_true,sBy]) k
def xcQ (s:xag):Bool:=xcD s.Head&&(decide (s.Head.Epoch=0)&&(decide (s.Head.Kind=1)&&(!s.Head.Frozen&&(decide (s.Head.Zone=xhM s.Head.Keys s.Head.Prev)&&sBy s s.Head.Keys))))
theorem xtl (s:xag) (h:xav s≤33554432) (k):call Qex [.agg (xam s)] k=k [.bool (xcQ s)]:=xaa (fun k=>by
 obtain ⟨h1,h2,h3⟩:=xa5 h
 obtain ⟨q1,q2,q3⟩:=xda h1
 have e1:=xtm s.Head h1
 have e2:=xwD s.Head.Keys s.Head.Prev q1
 have e3:=xcr s s.Head.Keys h q1
 simp only [Qex,un,cur0,e1,e2,e3,xaG,xd4,xba,xaf,xah,xaw,xao,xai,xan,true_and,and_true]
 exact xcb fun _=>xcb fun _=>xcb fun _=>xcb fun _=>xcb fun _=>Iff.rfl) k
theorem xtt (s:xag) (h:xav s≤33554432) (k):call Qcc [.agg (xam s)] k=k [.bool (xcQ s)]:=xaa (fun k=>by
 obtain ⟨h1,h2,h3⟩:=xa5 h
 obtain ⟨q1,q2,q3⟩:=xda h1
 have e1:=xtu s.Head h1
 have e2:=xwX s.Head.Keys s.Head.Prev q1
 have e3:=xqb s.Head h1
 have e4:=xrH s.Head.Keys (xa2 s.Head) s.Sigs q1 h3 h2
 simp only [Qcc,un,cur0,e1,e2,e3,e4,xaG,xd4,xba,xaf,xah,xaw,xao,xai,xan,true_and,and_true]
 exact xcb fun _=>xcb fun _=>xcb fun _=>xcb fun _=>xcb fun _=>Iff.rfl) k
theorem xhc {b:Bool} {v c:Int} {P:Prop} {k:List PV→Prop} (h:b=false→(P↔k [I c])):(if b=true then k [I v] else P)↔k [I (if b=true then v else c)]:=by
 cases b
 ·simpa using h rfl
 ·simp
theorem xhG {b:Bool} {v c:Int} {P:Prop} {k:List PV→Prop} (h:b=true→(P↔k [I c])):(if (!b)=true then k [I v] else P)↔k [I (if b=true then c else v)]:=by
 cases b
 ·simp
 ·simpa using h rfl
def xiW (a b:xa9):Bool:=decide (a.Count=b.Count)&&decide (a.Root=b.Root)
theorem xuH (a b:xa9) (k):call Qfd [.agg (xbp a),.agg (xbp b)] k=k [.bool (xiW a b)]:=xaa (fun k=>by
 simp only [Qfd,un,cur0,xaG,xd4,xah,xaw,xao,xai,xan,true_and,and_true]
 exact xcb fun _=>Iff.rfl) k
theorem xuV (a b:xa9) (k):call Qch [.agg (xbp a),.agg (xbp b)] k=k [.bool (xiW a b)]:=xaa (fun k=>by
 simp only [Qch,un,cur0,xaG,xd4,xah,xaw,xao,xai,xan,true_and,and_true]
 exact xcb fun _=>Iff.rfl) k
def xqw (p h:xa9):Bool:=decide (h.Zone=p.Zone)&&(decide (h.Epoch=IntKind.i64.wrap (p.Epoch+1))&&(decide (h.Prev=xhS p)&&decide (p.Time≤h.Time)))
theorem xwu (p h:xa9) (hp:xbx p≤33554432) (k):call Qez [.agg (xbp p),.agg (xbp h)] k=k [.bool (xqw p h)]:=xaa (fun k=>by
 have e:=xwv p hp
 simp only [Qez,un,cur0,e,xaG,xcf,xbd,xd4,xaf,xah,xaw,xao,xai,xan,true_and,and_true]
 exact xcb fun _=>xcb fun _=>xcb fun _=>Iff.rfl) k
def xmY (p:xa9) (s:xag):Int:=if p.Frozen=true then 4 else if s.Head.Frozen=true then 6 else if sBy s p.Keys=true then 1 else 7
def xqx (p:xa9) (s:xag):Int:=if p.Frozen=true then 4 else if sNo p.Heirs=true then 5 else if decide (s.Head.Time<IntKind.i64.wrap (p.Until+p.Wait))=true then 5 else if s.Head.Frozen=true then 6 else
 if decide (s.Head.Keys=p.Heirs)=true then (if xiW s.Head p=true then (if sBy s p.Heirs=true then 1 else 7) else 6) else 6
def sJC (p:xa9) (s:xag):Int:=if sNo p.Judge=true then 5 else if decide (s.Head.Frozen=p.Frozen)=true then 6 else
 if (xiW s.Head p&&(decide (s.Head.Judge=p.Judge)&&(decide (s.Head.Heirs=p.Heirs)&&decide (s.Head.Wait=p.Wait))))=true then (if (!s.Head.Frozen||decide (s.Head.Keys=p.Keys))=true then (if sBy s p.Judge=true then 1 else 7) else 6) else 6
def xoN (p:xa9) (s:xag):Int:=if xcD p=true then (if xcD s.Head=true then (if xqw p s.Head=true then (if decide (s.Head.Kind=1)=true then xmY p s else if decide (s.Head.Kind=2)=true then xqx p s else sJC p s) else 3) else 2) else 2
theorem xwt (p:xa9) (s:xag) (hp:xbx p≤33554432) (hs:xav s≤33554432) (k):call Qfa [.agg (xbp p),.agg (xam s)] k=k [I (xmY p s)]:=xaa (fun k=>by
 obtain ⟨q1,q2,q3⟩:=xda hp
 have e:=xcr s p.Keys hs q1
 simp only [Qfa,un,cur0,e,xba,xaf,xah,xaw,xao,xai,xas,true_and,and_true]
 exact xhc fun _=>xhc fun _=>xhG fun _=>Iff.rfl) k
theorem xws (p:xa9) (s:xag) (hp:xbx p≤33554432) (hs:xav s≤33554432) (k):call Qfe [.agg (xbp p),.agg (xam s)] k=k [I (xqx p s)]:=xaa (fun k=>by
 obtain ⟨q1,q2,q3⟩:=xda hp
 obtain ⟨r1,r2,r3⟩:=xda (xa5 hs).1
 have e:=xcr s p.Heirs hs q2
 have e2:=xmM s.Head.Keys p.Heirs r1
 simp only [Qfe,un,cur0,e,e2,xom,xuH,xba,xbd,xaq,xaf,xah,xaw,xao,xai,xas,true_and,and_true]
 exact xhc fun _=>xhc fun _=>xhc fun _=>xhc fun _=>xhG fun _=>xhG fun _=>xhG fun _=>Iff.rfl) k
theorem xwr (p:xa9) (s:xag) (hp:xbx p≤33554432) (hs:xav s≤33554432) (k):call Qff [.agg (xbp p),.agg (xam s)] k=k [I (sJC p s)]:=xaa (fun k=>by
 obtain ⟨q1,q2,q3⟩:=xda hp
 obtain ⟨r1,r2,r3⟩:=xda (xa5 hs).1
 have e:=xcr s p.Judge hs q3
 have e2:=xmM s.Head.Judge p.Judge r3
 have e3:=xmM s.Head.Heirs p.Heirs r2
 have e4:=xmM s.Head.Keys p.Keys r1
 simp only [Qff,un,cur0,e,e2,e3,e4,xom,xuH,xba,xlP,xaG,xd4,xaf,xah,xaw,xao,xai,xas,true_and,and_true,sJC]
 generalize sNo p.Judge=b1
 generalize xiW s.Head p=b2
 generalize decide (s.Head.Judge=p.Judge)=b3
 generalize decide (s.Head.Heirs=p.Heirs)=b4
 generalize decide (s.Head.Wait=p.Wait)=b5
 generalize decide (s.Head.Keys=p.Keys)=b6
 generalize sBy s p.Judge=b7
 cases b1<;>cases b2<;>cases b3<;>cases b4<;>cases b5<;>cases b6<;>cases b7<;>cases s.Head.Frozen<;>cases p.Frozen<;>simp) k
theorem xwq (p:xa9) (s:xag) (hp:xbx p≤33554432) (hs:xav s≤33554432) (k):call Qfg [.agg (xbp p),.agg (xam s)] k=k [I (xoN p s)]:=xaa (fun k=>by
 have e1:=xtm p hp
 have e2:=xtm s.Head (xa5 hs).1
 have e3:=xwu p s.Head hp
 have e4:=xwt p s hp hs
 have e5:=xws p s hp hs
 have e6:=xwr p s hp hs
 simp only [Qfg,un,cur0,e1,e2,e3,e4,e5,e6,xba,xaG,xd4,xaf,xah,xaw,xao,xai,xas,true_and,and_true]
 refine xhG fun _=>xhG fun _=>xhG fun _=>?_
 by_cases h1:s.Head.Kind=1
 ·simp [h1]
 ·by_cases h2:s.Head.Kind=2<;>simp [h1,h2]) k
def xnP (p:xa9) (s:xag):Bool:=decide (xoN p s=1)
theorem xtj (p:xa9) (s:xag) (hp:xbx p≤33554432) (hs:xav s≤33554432) (k):call Qfh [.agg (xbp p),.agg (xam s)] k=k [.bool (xnP p s)]:=xaa (fun k=>by
 have e:=xwq p s hp hs
 simp only [Qfh,un,cur0,e,xaG,xd4,xaf,xaw,xao,xai,xan,true_and,and_true,xnP]) k
theorem xrG (a b:xb1) (h:xbk a≤33554432) (k):call Qcg [.agg (xcU a),.agg (xcU b)] k=k [.bool (decide (a=b))]:=xaa (fun k=>by
 unfold xbk at h
 obtain ⟨l,n⟩:=a
 obtain ⟨m,q⟩:=b
 have e:=xts l m (by simp only at h;omega)
 simp only [Qcg,un,cur0,e,xaG,xd4,xaf,xah,xaw,xao,xai,xan,true_and,and_true]
 by_cases h1:n=q<;>by_cases h2:l=m<;>simp [h1,h2]) k
theorem xwR (p h:xa9) (k):call Qce [.agg (xbp p),.agg (xbp h)] k=k [I (if p.Frozen=true then 4 else if h.Frozen=true then 6 else 1)]:=xaa (fun k=>by
 simp only [Qce,un,cur0,xah,xaw,xao,xai,xas,true_and,and_true]
 exact xhc fun _=>xhc fun _=>Iff.rfl) k
def xqJ (p h:xa9):Int:=if p.Frozen=true then 4 else if sNo p.Heirs=true then 5 else if decide (h.Time<IntKind.i64.wrap (p.Until+p.Wait))=true then 5 else if h.Frozen=true then 6 else
 if decide (h.Keys=p.Heirs)=true then (if xiW h p=true then 1 else 6) else 6
theorem xwQ (p h:xa9) (hp:xbx p≤33554432) (hh:xbx h≤33554432) (k):call Qci [.agg (xbp p),.agg (xbp h)] k=k [I (xqJ p h)]:=xaa (fun k=>by
 obtain ⟨r1,r2,r3⟩:=xda hh
 have e2:=xrG h.Keys p.Heirs r1
 simp only [Qci,un,cur0,e2,xtv,xuV,xba,xbd,xaq,xaf,xah,xaw,xao,xai,xas,true_and,and_true]
 exact xhc fun _=>xhc fun _=>xhc fun _=>xhc fun _=>xhG fun _=>xhG fun _=>Iff.rfl) k
def xk4 (p h:xa9):Int:=if sNo p.Judge=true then 5 else if decide (h.Frozen=p.Frozen)=true then 6 else
 if (xiW h p&&(decide (h.Judge=p.Judge)&&(decide (h.Heirs=p.Heirs)&&decide (h.Wait=p.Wait))))=true then (if (!h.Frozen||decide (h.Keys=p.Keys))=true then 1 else 6) else 6
theorem xwP (p h:xa9) (hp:xbx p≤33554432) (hh:xbx h≤33554432) (k):call Qcj [.agg (xbp p),.agg (xbp h)] k=k [I (xk4 p h)]:=xaa (fun k=>by
 obtain ⟨r1,r2,r3⟩:=xda hh
 have e2:=xrG h.Judge p.Judge r3
 have e3:=xrG h.Heirs p.Heirs r2
 have e4:=xrG h.Keys p.Keys r1
 have e5:(h.Wait != p.Wait)=!decide (h.Wait=p.Wait):=by rw [bne,xd4]
 simp only [Qcj,un,cur0,e2,e3,e4,xtv,xuV,xba,xlP,xbS,e5,xaf,xah,xaw,xao,xai,xas,true_and,and_true,xk4]
 generalize sNo p.Judge=b1
 generalize xiW h p=b2
 generalize decide (h.Judge=p.Judge)=b3
 generalize decide (h.Heirs=p.Heirs)=b4
 generalize decide (h.Wait=p.Wait)=b5
 generalize decide (h.Keys=p.Keys)=b6
 cases b1<;>cases b2<;>cases b3<;>cases b4<;>cases b5<;>cases b6<;>cases h.Frozen<;>cases p.Frozen<;>simp) k
theorem xoa (p:xa9) (s:xag):xmY p s=if decide ((if p.Frozen=true then 4 else if s.Head.Frozen=true then 6 else 1:Int)=1)=true then (if sBy s p.Keys=true then 1 else 7) else (if p.Frozen=true then 4 else if s.Head.Frozen=true then 6 else 1):=by
 unfold xmY
 cases p.Frozen<;>cases s.Head.Frozen<;>simp
theorem xpP (p:xa9) (s:xag):xqx p s=if decide (xqJ p s.Head=1)=true then (if sBy s p.Heirs=true then 1 else 7) else xqJ p s.Head:=by
 unfold xqx xqJ
 cases p.Frozen<;>cases sNo p.Heirs<;>by_cases h1:s.Head.Time<IntKind.i64.wrap (p.Until+p.Wait)<;>cases s.Head.Frozen<;>by_cases h2:s.Head.Keys=p.Heirs<;>cases xiW s.Head p<;>simp [h1,h2]
theorem xob (p:xa9) (s:xag):sJC p s=if decide (xk4 p s.Head=1)=true then (if sBy s p.Judge=true then 1 else 7) else xk4 p s.Head:=by
 unfold sJC xk4
 generalize (xiW s.Head p&&(decide (s.Head.Judge=p.Judge)&&(decide (s.Head.Heirs=p.Heirs)&&decide (s.Head.Wait=p.Wait))))=b2
 generalize (!s.Head.Frozen||decide (s.Head.Keys=p.Keys))=b3
 generalize decide (s.Head.Frozen=p.Frozen)=b4
 cases sNo p.Judge<;>cases b2<;>cases b3<;>cases b4<;>simp
theorem xpv {h:xa9} (hh:xcD h=true):h.Kind=1∨h.Kind=2∨h.Kind=3:=by
 unfold xcD at hh
 simp only [Bool.and_eq_true,inR,decide_eq_true_eq] at hh
 omega
theorem xrd {c:Int} {b:Bool} {k:List PV→Prop}:(if decide (c=1)=true then (if (!b)=true then k [I 7] else k [I c]) else k [I c])↔k [I (if decide (c=1)=true then (if b=true then 1 else 7) else c)]:=by
 by_cases h:c=1
 ·subst h;cases b<;>simp
 ·simp [h]
theorem xwO (p:xa9) (s:xag) (hp:xbx p≤33554432) (hs:xav s≤33554432) (k):call Qck [.agg (xbp p),.agg (xam s)] k=k [I (xoN p s)]:=xaa (fun k=>by
 obtain ⟨h1,h2,h3⟩:=xa5 hs
 obtain ⟨q1,q2,q3⟩:=xda hp
 have e1:=xtu p hp
 have e2:=xtu s.Head h1
 have e3:=xwS p hp
 have e4:=xwR p s.Head
 have e5:=xwQ p s.Head hp h1
 have e6:=xwP p s.Head hp h1
 have e7:=xqb s.Head h1
 have e8:=xrH p.Keys (xa2 s.Head) s.Sigs q1 h3 h2
 have e9:=xrH p.Heirs (xa2 s.Head) s.Sigs q2 h3 h2
 have e10:=xrH p.Judge (xa2 s.Head) s.Sigs q3 h3 h2
 simp only [Qck,un,cur0,e1,e2,e3,e4,e5,e6,e7,e8,e9,e10,xba,xaG,xbS,xbd,xaq,bne,xd4,xaf,xah,xaw,xao,xai,xas,true_and,and_true,xrd]
 refine xhG fun _=>xhG fun hh=>?_
 have hk:=xpv hh
 have hc:∀{b1 b2 b3 b4:Bool} {P:Prop} {c:Int},(P↔k [I c])→((if (!b1)=true then k [I 3] else if (!b2)=true then k [I 3] else if (!b3)=true then k [I 3] else if (!b4)=true then k [I 3] else P)↔k [I (if (b1&&(b2&&(b3&&b4)))=true then c else 3)]):=by
  intro b1 b2 b3 b4 P c h
  cases b1<;>cases b2<;>cases b3<;>cases b4<;>simp [h]
 rw [show decide (s.Head.Time<p.Time)=!decide (p.Time≤s.Head.Time) by by_cases h:p.Time≤s.Head.Time<;>simp [h]<;>omega]
 refine hc ?_
 rw [xoa,xpP,xob]
 rcases hk with hk | hk | hk<;>simp [hk,sBy]
 all_goals exact Iff.rfl) k
theorem xtr (p:xa9) (s:xag) (hp:xbx p≤33554432) (hs:xav s≤33554432) (k):call Qcl [.agg (xbp p),.agg (xam s)] k=k [.bool (xnP p s)]:=xaa (fun k=>by
 have e:=xwO p s hp hs
 simp only [Qcl,un,cur0,e,xaG,xd4,xaf,xaw,xao,xai,xan,true_and,and_true,xnP]) k
def xkq {α:Type} (p:Nat→α→Bool):Nat→List α→Int
 | _,[]=>-1
 | i,x::l=>if p i x=true then (i:Int) else xkq p (i+1) l
theorem xix {α:Type} (p:Nat→α→Bool) (Q:Int→Prop):∀(i:Nat) (l:List α),xfp p (fun i _=>Q i) (Q (-1)) i l=Q (xkq p i l)
 | _,[]=>rfl
 | i,x::l=>by
  rw [xfp,xix p Q (i+1) l,xkq]
  split<;>rfl
theorem xnd {α:Type} {R:(List PV→Prop)→List PV→Prop} {v:List PV} {Q:Int→Prop} (l:List α) (V:Nat→List PV) (p:Nat→α→Bool) (hv:v=V 0)
 (h:∀i x,l[i]? = some x→i<l.length→∀K,R K (V i)↔if p i x=true then Q i else K (V (i+1))) (hf:∀K,R K (V l.length)↔Q (-1)):lp R v↔Q (xkq p 0 l):=by
 have:=xh7 l V p (fun i _=>Q i) hv (fun i x hx=>h i x hx (xaK hx)) hf
 rwa [xix] at this
def xfq (l:List xag) (i:Nat) (x:xag):Bool:=if i=0 then !xcQ x else match l[i-1]? with | some y=>!xnP y.Head x | none=>true
def sFW (l:List xag):Int:=xkq (xfq l) 0 l
theorem xbP {l:List xag} (h:xar l≤33554432):l.length≤33554432∧∀x∈l,xav x≤33554432:=by
 unfold xar at h
 refine ⟨by omega,fun x hx=>?_⟩
 have:=xbn (s:=xav) hx
 omega
theorem xwp (l:List xag) (h:xar l≤33554432) (k):call Qfi [.one (.list 17 (l.map xam))] k=k [I (sFW l)]:=xaa (fun k=>by
 obtain ⟨hl,hx0⟩:=xbP h
 simp only [Qfi,xaA,List.length_map,xaw,xao,xai,xas,true_and]
 refine xnd (Q:=fun i=>k [I i]) l (fun i=>[.list 17 (l.map xam),I 0,.list 17 (l.map xam),I l.length,I i]) (xfq l) rfl (fun i x hx hi K=>?_) fun K=>?_
 ·have hm:=hx0 x (xbb hx)
  by_cases h0:i=0
  ·subst h0
   have e:=xtl x hm
   simp [-getElem?_pos,Qfi_r0,hx,hi,e,xfq,xbK]
  ·obtain ⟨y,hy⟩:∃y,l[i-1]? = some y:=⟨l[i-1],List.getElem?_eq_getElem (by omega)⟩
   have e:=xtj y.Head x (xa5 (hx0 y (xbb hy))).1 hm
   simp [-getElem?_pos,Qfi_r0,hx,hi,hy,h0,e,xfq,show ¬(i:Int)=0 by omega,show 0<i by omega,xdm (show 0<i by omega) (show i<1000000000000000000 by omega),xal (show i<1000000000000000000 by omega)]
 ·simp [Qfi_r0]) k
theorem xwN (l:List xag) (h:xar l≤33554432) (k):call Qcm [.one (.list 17 (l.map xam))] k=k [I (sFW l)]:=xaa (fun k=>by
 obtain ⟨hl,hx0⟩:=xbP h
 simp only [Qcm,xaA,List.length_map,xaw,xao,xai,xas,true_and]
 refine xnd (Q:=fun i=>k [I i]) l (fun i=>[.list 17 (l.map xam),I 0,I i]) (xfq l) rfl (fun i x hx hi K=>?_) fun K=>?_
 ·have hm:=hx0 x (xbb hx)
  by_cases h0:i=0
  ·subst h0
   have e:=xtt x hm
   simp [-getElem?_pos,Qcm_r0,hx,hi,e,xfq,xbK]
  ·obtain ⟨y,hy⟩:∃y,l[i-1]? = some y:=⟨l[i-1],List.getElem?_eq_getElem (by omega)⟩
   have e:=xtr y.Head x (xa5 (hx0 y (xbb hy))).1 hm
   simp [-getElem?_pos,Qcm_r0,hx,hi,hy,h0,e,xfq,show ¬(i:Int)=0 by omega,show 0<i by omega,xdm (show 0<i by omega) (show i<1000000000000000000 by omega),xal (show i<1000000000000000000 by omega)]
 ·simp [Qcm_r0]) k
def xaN (l:List xag):Bool:=inR l.length 1 12&&decide (sFW l<0)
theorem xol (l:List xag) (h:xar l≤33554432) (k):call Qfj [.one (.list 17 (l.map xam))] k=k [.bool (xaN l)]:=xaa (fun k=>by
 have e:=xwp l h
 simp only [Qfj,xaA,List.length_map,xdA,e,xaq,xaf,xah,xaw,xao,xai,xan,true_and,and_true]
 exact xcb fun _=>Iff.rfl) k
theorem xrF (l:List xag) (h:xar l≤33554432) (k):call Qcn [.one (.list 17 (l.map xam))] k=k [.bool (xaN l)]:=xaa (fun k=>by
 have e:=xwN l h
 simp only [Qcn,xaA,List.length_map,xeK,e,xaq,xaf,xah,xaw,xao,xai,xan,true_and,and_true]
 exact xcb fun _=>Iff.rfl) k
theorem xe4 {l:List xag} (h:xaN l=true):∃p,l[l.length-1]? = some p∧0<l.length:=by
 unfold xaN inR at h
 simp only [Bool.and_eq_true,decide_eq_true_eq] at h
 exact ⟨l[l.length-1],List.getElem?_eq_getElem (by omega),by omega⟩
def xd6:xa9:=⟨0,0,0,0,0,0,0,0,⟨[],0⟩,⟨[],0⟩,0,⟨[],0⟩,false⟩
def xdq (l:List xag):Option xa9:=if xaN l=true then (l[l.length-1]?).map (·.Head) else none
def xeg:Option xa9→List PV
 | some h=>xbp h++[.bool true]
 | none=>xbp xd6++[.bool false]
theorem xrE (l:List xag) (h:xar l≤33554432) (k):call Qco [.one (.list 17 (l.map xam))] k=k (xeg (xdq l)):=xaa (fun k=>by
 obtain ⟨hl,hx0⟩:=xbP h
 have e:=xrF l h
 unfold xdq
 cases hc:xaN l with
 | false=>simp [Qco,e,hc,xeg,xd6,ints]
 | true =>
  obtain ⟨p,hp,h0⟩:=xe4 hc
  have e3:=xuW p.Head (xa5 (hx0 p (xbb hp))).1
  simp [-getElem?_pos,Qco,e,hc,e3,xeg,hp,xdm h0 (show l.length<1000000000000000000 by omega)]) k
def azB (x:UInt8):Bool:=(decide (97≤(x.toNat:Int))&&decide ((x.toNat:Int)≤122))||(decide (48≤(x.toNat:Int))&&decide ((x.toNat:Int)≤57))
def xei (x:UInt8):Bool:=decide ((x.toNat:Int)=45)
def xpW (n:Nat) (i:Nat) (x:UInt8):Bool:=!(azB x||(xei x&&(decide (0<i)&&decide (i+1<n))))
def xb2 (s:ByteArray):Bool:=!xe7 (xpW s.data.toList.length) 0 s.data.toList&&inR s.size 1 8
theorem size_data (s:ByteArray):s.size=s.data.toList.length:=rfl
theorem xp9 (s:ByteArray) (h:s.size≤33554432) (k):call Qfl [.one (.str s)] k=k [.bool (xb2 s)]:=xaa (fun k=>by
 simp only [Qfl,xfK,xaw,xao,xai,xan,true_and,xdA,xaf]
 refine (xgH (P:=k [.bool false]) (fin:=k [.bool (inR s.size 1 8)]) s.data.toList (fun i=>[.str s,.bool false,I s.size,I i]) (xpW s.data.toList.length) rfl (fun i x hx hi K=>?_) fun K=>?_).trans ?_
 ·have hw:=xal (show i<1000000000000000000 by rw [size_data] at h;omega)
  have hl:IntKind.i64.wrap ((s.size:Int)-1)=(s.size:Int)-1:=xbK (by omega) (by omega)
  have hs:=size_data s
  simp only [Qfl_r0,un,cur0,xaq,xfl,xcf,xbJ,xaG,xbd,xbB,xfK,xkw,Int.toNat_natCast,hx,oP,xah,xba,xd4,hw,hl,show decide ((i:Int)<s.size)=true by rw [hs];simp;omega,if_true,show (0:Int)≤i by omega,true_and]
  unfold xpW azB xei
  have d1:decide ((i:Int)<(s.size:Int)-1)=decide (i+1<s.data.toList.length):=by apply decide_eq_decide.2;rw [hs];omega
  have d2:decide ((0:Int)<(i:Int))=decide (0<i):=by apply decide_eq_decide.2;omega
  rw [d1,d2]
  generalize decide (97≤(x.toNat:Int))=b1
  generalize decide ((x.toNat:Int)≤122)=b2
  generalize decide (48≤(x.toNat:Int))=b3
  generalize decide ((x.toNat:Int)≤57)=b4
  generalize decide ((x.toNat:Int)=45)=b5
  generalize decide (0<i)=b6
  generalize decide (i+1<s.data.toList.length)=b7
  cases b1<;>cases b2<;>cases b3<;>cases b4<;>cases b5<;>cases b6<;>cases b7<;>simp
 ·simp only [Qfl_r0,un,cur0,xaq,xah,show decide (((s.data.toList.length:Nat):Int)<s.size)=false by rw [size_data];simp,xfK,xdA,xaf]
  simp
 ·unfold xb2
  cases xe7 (xpW s.data.toList.length) 0 s.data.toList<;>simp) k
theorem xqQ (L:List UInt8) (x y:UInt8) (hx:L[0]? = some x) (hy:L[L.length-1]? = some y):xe7 (xpW L.length) 0 L=(xei x||(xei y||L.any fun b=>!(azB b||xei b))):=by
 rw [Bool.eq_iff_iff]
 constructor
 ·intro h
  rcases hd:(xei x||(xei y||L.any fun b=>!(azB b||xei b))) with _ | _
  ·exfalso
   simp only [Bool.or_eq_false_iff] at hd
   obtain ⟨d1,d2,d3⟩:=hd
   have hn:xe7 (xpW L.length) 0 L=false:=by
    rw [xfm]
    intro j b hb
    have hj:=xaK hb
    have h3:=List.any_eq_false.1 d3 b (List.mem_of_getElem? hb)
    unfold xpW
    by_cases ha:azB b=true
    ·simp [ha]
    ·have hdb:xei b=true:=by cases h:xei b<;>simp [ha,h] at h3 ⊢
     have j0:j≠0:=by rintro rfl;rw [hx] at hb;injection hb with hb;subst hb;rw [d1] at hdb;cases hdb
     have j1:j≠L.length-1:=by rintro rfl;rw [hy] at hb;injection hb with hb;subst hb;rw [d2] at hdb;cases hdb
     simp [hdb,show 0<j by omega,show j+1<L.length by omega]
   rw [hn] at h;cases h
  ·rfl
 ·intro h
  cases hn:xe7 (xpW L.length) 0 L with
  | true=>rfl
  | false =>
   exfalso
   rw [xfm] at hn
   have hl:=xaK hy
   have az_dash:∀b,xei b=true→azB b=false:=by
    intro b hb
    unfold xei at hb
    unfold azB
    simp only [decide_eq_true_eq] at hb
    simp [hb]
   simp only [Bool.or_eq_true] at h
   rcases h with h | h | h
   ·have:=hn 0 x hx
    simp [xpW,h,az_dash x h] at this
   ·have:=hn _ y hy
    simp [xpW,h,az_dash y h] at this
    omega
   ·obtain ⟨b,hb,h2⟩:=List.any_eq_true.1 h
    obtain ⟨j,hj⟩:=List.mem_iff_getElem?.1 hb
    have:=hn j b hj
    unfold xpW at this
    simp only [Bool.not_eq_true',Bool.or_eq_false_iff] at h2
    simp [h2.1,h2.2] at this
theorem xqa (s:ByteArray) (h:s.size≤33554432) (k):call Qcp [.one (.str s)] k=k [.bool (xb2 s)]:=xaa (fun k=>by
 have hs:=size_data s
 unfold xb2
 cases hr:inR s.size 1 8 with
 | false=>simp [Qcp,xeK,hr]
 | true =>
  have h1:1≤s.size:=by unfold inR at hr;simp at hr;omega
  obtain ⟨x,hx⟩:∃x,s.data.toList[0]? = some x:=⟨s.data.toList[0]'(by omega),List.getElem?_eq_getElem (by omega)⟩
  obtain ⟨y,hy⟩:∃y,s.data.toList[s.data.toList.length-1]? = some y:=⟨_,List.getElem?_eq_getElem (by omega)⟩
  have hl:IntKind.i64.wrap ((s.size:Int)-1)=((s.size-1:Nat):Int):=by rw [xbK (by omega) (by omega)];omega
  have hy':s.data.toList[s.size-1]? = some y:=hy
  rw [xqQ _ x y hx hy]
  simp only [Qcp,xfK,xeK,hr,xba,xaf,xah,xbB,hl,xaG,xd4,xkw,Int.toNat_natCast,show ((0:Int)).toNat=0 from rfl,hx,hy',oP,xaw,xao,xai,xan,true_and,Bool.not_true,Bool.false_eq_true,if_false,show (0:Int)≤0 by omega,show (0:Int)≤((s.size-1:Nat):Int) by omega]
  rw [show decide ((x.toNat:Int)=45)=xei x from rfl,show decide ((y.toNat:Int)=45)=xei y from rfl]
  have key:lp (fun L w=>Qcp_r0 w L (k [PV.bool false]) fun q29 q30 q31=>k [PV.bool true]) [PV.str s,PV.bool false,I 0]↔k [.bool (!(s.data.toList.any fun b=>!(azB b||xei b)))]:=by
   refine (xpf (P:=k [.bool false]) (fin:=k [.bool true]) s.data.toList (fun i=>[.str s,.bool false,I i]) (fun b=>!(azB b||xei b)) rfl (fun i x hx hi K=>?_) fun K=>?_).trans ?_
   ·have hw:=xal (show i<1000000000000000000 by omega)
    simp only [Qcp_r0,un,cur0,xaq,xfl,xcf,xbJ,xaG,xbS,xbd,xfK,xkw,Int.toNat_natCast,hx,oP,xah,xba,bne,xd4,hw,show decide ((i:Int)<s.size)=true by rw [hs];simp;omega,if_true,show (0:Int)≤i by omega,true_and]
    unfold azB xei
    rw [show decide ((x.toNat:Int)<97)=!decide (97≤(x.toNat:Int)) by by_cases h:97≤(x.toNat:Int)<;>simp [h]<;>omega,
     show decide ((x.toNat:Int)<48)=!decide (48≤(x.toNat:Int)) by by_cases h:48≤(x.toNat:Int)<;>simp [h]<;>omega,
     show decide (122<(x.toNat:Int))=!decide ((x.toNat:Int)≤122) by by_cases h:(x.toNat:Int)≤122<;>simp [h]<;>omega,
     show decide (57<(x.toNat:Int))=!decide ((x.toNat:Int)≤57) by by_cases h:(x.toNat:Int)≤57<;>simp [h]<;>omega]
    generalize decide (97≤(x.toNat:Int))=b1
    generalize decide ((x.toNat:Int)≤122)=b2
    generalize decide (48≤(x.toNat:Int))=b3
    generalize decide ((x.toNat:Int)≤57)=b4
    generalize decide ((x.toNat:Int)=45)=b5
    cases b1<;>cases b2<;>cases b3<;>cases b4<;>cases b5<;>simp
   ·simp only [Qcp_r0,un,cur0,xaq,xfK,xah,show decide (((s.data.toList.length:Nat):Int)<s.size)=false by rw [size_data];simp]
    simp
   ·cases (s.data.toList.any fun b=>!(azB b||xei b))<;>simp
  rw [propext key]
  cases xei x<;>cases xei y<;>simp) k
def xcC (p:List ByteArray):Bool:=inR p.length 1 4&&!(p.any fun s=>!xb2 s)
theorem xj4 {p:List ByteArray} (h:p.length+xbl ByteArray.size p≤33554432):p.length≤33554432∧∀s∈p,s.size≤33554432:=by
 refine ⟨by omega,fun s hs=>?_⟩
 have:=xbn (s:=ByteArray.size) hs
 omega
theorem xth (p:List ByteArray) (h:p.length+xbl ByteArray.size p≤33554432) (k):call Qfp [.one (strs p)] k=k [.bool (xcC p)]:=xaa (fun k=>by
 obtain ⟨hl,hs⟩:=xj4 h
 have e:∀k,call Qfn [.one (strs p),.fn 282 []] k=k [I (idx (fun s=>!xb2 s) p)]:=xaa (fun k=>by
  simp [Qfn]
  refine xdv (Q:=fun i=>k [I i]) p (fun i=>[strs p,I 0,I p.length,I i]) (fun s=>!xb2 s) rfl (fun i x hx hi K=>?_) fun K=>?_
  ·have e1:∀k,call Qfm [.one (.str x)] k=k [.bool (!xb2 x)]:=xaa (fun k=>by simp [Qfm,xp9 x (hs x (xbb hx))])
   simp [-getElem?_pos,Qfn_r0,hx,hi,e1,xal (show i<1000000000000000000 by omega)]
  ·simp [Qfn_r0])
 have e2:∀k,call Qfo [.one (strs p),.fn 282 []] k=k [.bool (p.any fun s=>!xb2 s)]:=xaa (fun k=>by simp [Qfo,e,xmq])
 simp only [Qfp,xaA,List.length_map,xdA,e2,xba,xaf,xah,xaw,xao,xai,xan,true_and]
 exact xcb fun _=>Iff.rfl) k
theorem xtq (p:List ByteArray) (h:p.length+xbl ByteArray.size p≤33554432) (k):call Qcq [.one (strs p)] k=k [.bool (xcC p)]:=xaa (fun k=>by
 obtain ⟨hl,hs⟩:=xj4 h
 simp only [Qcq,xaw,xao,xai,xan,true_and,xaA,List.length_map,xeK,xaf]
 refine (xpf (P:=k [.bool false]) (fin:=k [.bool (inR p.length 1 4)]) p (fun i=>[strs p,.bool false,I i]) (fun s=>!xb2 s) rfl (fun i x hx hi K=>?_) fun K=>?_).trans ?_
 ·have e:=xqa x (hs x (xbb hx))
  simp [-getElem?_pos,Qcq_r0,hx,hi,e,xal (show i<1000000000000000000 by omega)]
 ·simp [Qcq_r0,xeK]
 ·unfold xcC
  cases (p.any fun s=>!xb2 s)<;>simp) k
def xb7 (e:xat):Bool:=xb2 e.Label&&(if decide (e.Kind=1)=true then inR e.Value 0 999999&&decide (e.Path.length=0) else if decide (e.Kind=2)=true then inR e.Value 0 2147483646&&decide (e.Path.length=0) else if decide (e.Kind=3)=true then inR e.Value 0 2147483646&&xcC e.Path else false)
theorem xhw {e:xat} (h:xaz e≤33554432):e.Label.size≤33554432∧e.Path.length+xbl ByteArray.size e.Path≤33554432:=by unfold xaz at h;omega
theorem len0 (n:Nat):((n:Int)==0)=decide (n=0):=by rw [xd4];apply decide_eq_decide.2;omega
theorem xwG (x:Int) (k):call Qdx [.one (I x)] k=k [.bool (inR x 0 2147483646)]:=xaa (fun k=>by simp [Qdx,xdA]) k
theorem xuG (e:xat) (h:xaz e≤33554432) (k):call Qfq [.agg (xaD e)] k=k [.bool (xb7 e)]:=xaa (fun k=>by
 obtain ⟨h1,h2⟩:=xhw h
 have e1:=xp9 e.Label h1
 have e2:=xth e.Path h2
 simp only [Qfq,un,cur0,e1,e2,xdA,xwG,xaA,List.length_map,xaG,len0,xd4,xba,xaf,xah,xaw,xao,xai,xan,true_and,xb7]
 refine xhF fun _=>?_
 cases decide (e.Kind=1)<;>cases decide (e.Kind=2)<;>cases decide (e.Kind=3)<;>cases inR e.Value 0 999999<;>cases inR e.Value 0 2147483646<;>simp) k
theorem xuU (e:xat) (h:xaz e≤33554432) (k):call Qcr [.agg (xaD e)] k=k [.bool (xb7 e)]:=xaa (fun k=>by
 obtain ⟨h1,h2⟩:=xhw h
 have e1:=xqa e.Label h1
 have e2:=xtq e.Path h2
 simp only [Qcr,un,cur0,e1,e2,xeK,xaA,List.length_map,xaG,len0,xd4,xba,xaf,xah,xaw,xao,xai,xan,true_and,xb7]
 cases xb2 e.Label<;>cases decide (e.Kind=1)<;>cases decide (e.Kind=2)<;>cases decide (e.Kind=3)<;>cases inR e.Value 0 999999<;>cases inR e.Value 0 2147483646<;>simp) k
theorem xmC:∀(a b:List UInt8),Go.Lib.compareBytes b a=-Go.Lib.compareBytes a b
 | [],[]=>rfl
 | [],_::_=>rfl
 | _::_,[]=>rfl
 | x::a,y::b=>by
  have ih:=xmC a b
  unfold Go.Lib.compareBytes
  by_cases h1:x<y
  ·have:¬y<x:=by intro h;exact absurd (UInt8.lt_trans h1 h) (UInt8.lt_irrefl x)
   simp [h1,this]
  ·by_cases h2:y<x
   ·simp [h1,h2]
   ·simp [h1,h2,ih]
theorem xej:∀(a b:List UInt8),Go.Lib.compareBytes a b=-1∨Go.Lib.compareBytes a b=0∨Go.Lib.compareBytes a b=1
 | [],[]=>.inr (.inl rfl)
 | [],_::_=>.inl rfl
 | _::_,[]=>.inr (.inr rfl)
 | x::a,y::b=>by
  unfold Go.Lib.compareBytes
  split
  ·exact .inl rfl
  ·split
   ·exact .inr (.inr rfl)
   ·exact xej a b
theorem xnw:∀(a b:List UInt8),Op.bytesLess a b=decide (Go.Lib.compareBytes a b=-1)
 | [],[]=>by simp [Op.bytesLess,Go.Lib.compareBytes]
 | [],_::_=>by simp [Op.bytesLess,Go.Lib.compareBytes]
 | _::_,[]=>by simp [Op.bytesLess,Go.Lib.compareBytes]
 | x::a,y::b=>by
  have ih:=xnw a b
  unfold Op.bytesLess Go.Lib.compareBytes
  by_cases h1:x<y
  ·simp [h1]
  ·by_cases h2:y<x
   ·have:¬x=y:=by rintro rfl;exact UInt8.lt_irrefl _ h2
    simp [h1,h2,this]
   ·have:x=y:=by
     apply UInt8.toNat_inj.1
     rw [UInt8.lt_iff_toNat_lt] at h1 h2
     omega
    simp [h1,h2,this,ih]
theorem xpQ:∀(a b:List UInt8),(a==b)=decide (Go.Lib.compareBytes a b=0)
 | [],[]=>by simp [Go.Lib.compareBytes]
 | [],_::_=>by simp [Go.Lib.compareBytes]
 | _::_,[]=>by simp [Go.Lib.compareBytes]
 | x::a,y::b=>by
  have ih:=xpQ a b
  unfold Go.Lib.compareBytes
  rw [List.cons_beq_cons]
  by_cases h1:x<y
  ·have:¬x=y:=by rintro rfl;exact UInt8.lt_irrefl _ h1
   simp [h1,this]
  ·by_cases h2:y<x
   ·have:¬x=y:=by rintro rfl;exact UInt8.lt_irrefl _ h2
    simp [h1,h2,this]
   ·have:x=y:=by
     apply UInt8.toNat_inj.1
     rw [UInt8.lt_iff_toNat_lt] at h1 h2
     omega
    simp [h1,h2,this,ih]
def xe2 (s t:ByteArray):Int:=Go.Lib.compareBytes s.data.toList t.data.toList
theorem xry (s t:ByteArray) (k):call Qft [.one (.str s),.one (.str t)] k=k [I (xe2 s t)]:=xaa (fun k=>by
 have e:∀k,call Qkv [.one (.str s),.one (.str t)] k=k [I (xe2 s t)]:=xaa (fun k=>by simp [Qkv,xe2])
 have e2:∀k,call Qfs [.one (.str s),.one (.str t)] k=k [I (xe2 s t)]:=xaa (fun k=>by simp [Qfs,e])
 simp [Qft,e2]) k
theorem xrD (s t:ByteArray) (k):call Qcs [.one (.str s),.one (.str t)] k=k [I (xe2 s t)]:=xaa (fun k=>by
 simp only [Qcs,xac,xfB,xnw,xpQ,xah,xaw,xao,xai,xas,true_and]
 unfold xe2
 rcases xej s.data.toList t.data.toList with h | h | h<;>simp [h]) k
def xrh (l:List xat) (i:Nat) (x:xat):Bool:=!xb7 x||(decide (0<i)&&(match l[i-1]? with | some y=>decide (xe2 x.Label y.Label≤0) | none=>false))
def xci (l:List xat):Bool:=!xe7 (xrh l) 0 l&&decide ((l.length:Int)≤12)
theorem xuF (l:List xat) (h:xbf l≤33554432) (k):call Qfu [.one (.list 4 (l.map xaD))] k=k [.bool (xci l)]:=xaa (fun k=>by
 obtain ⟨hl,hx0⟩:=xbj h
 simp only [Qfu,xaA,List.length_map,xaw,xao,xai,xan,true_and,xfl]
 refine (xgH (P:=k [.bool false]) (fin:=k [.bool (decide ((l.length:Int)≤12))]) l (fun i=>[.list 4 (l.map xaD),.bool false,.list 4 (l.map xaD),I l.length,I i]) (xrh l) rfl (fun i x hx hi K=>?_) fun K=>?_).trans ?_
 ·have e:=xuG x (hx0 x (xbb hx))
  by_cases h0:i=0
  ·subst h0
   simp [-getElem?_pos,Qfu_r0,hx,hi,e,xrh,xbK]
  ·obtain ⟨y,hy⟩:∃y,l[i-1]? = some y:=⟨l[i-1],List.getElem?_eq_getElem (by omega)⟩
   have c:=xmC x.Label.data.toList y.Label.data.toList
   have r:=xej x.Label.data.toList y.Label.data.toList
   have e2:=xry x.Label y.Label
   simp [-getElem?_pos,Qfu_r0,hx,hi,hy,h0,e,e2,xrh,show 0<i by omega,xdm (show 0<i by omega) (show i<1000000000000000000 by omega),xal (show i<1000000000000000000 by omega)]
   cases xb7 x<;>by_cases h2:xe2 x.Label y.Label≤0<;>simp [h2]
 ·simp [Qfu_r0]
 ·unfold xci
  cases xe7 (xrh l) 0 l<;>simp) k
theorem xuT (l:List xat) (h:xbf l≤33554432) (k):call Qct [.one (.list 4 (l.map xaD))] k=k [.bool (xci l)]:=xaa (fun k=>by
 obtain ⟨hl,hx0⟩:=xbj h
 simp only [Qct,xaA,List.length_map,xaw,xao,xai,xan,true_and,xfl]
 refine (xgH (P:=k [.bool false]) (fin:=k [.bool (decide ((l.length:Int)≤12))]) l (fun i=>[.list 4 (l.map xaD),.bool false,I i]) (xrh l) rfl (fun i x hx hi K=>?_) fun K=>?_).trans ?_
 ·have e:=xuU x (hx0 x (xbb hx))
  by_cases h0:i=0
  ·subst h0
   simp [-getElem?_pos,Qct_r0,hx,hi,e,xrh,xbK]
  ·obtain ⟨y,hy⟩:∃y,l[i-1]? = some y:=⟨l[i-1],List.getElem?_eq_getElem (by omega)⟩
   have c:=xmC x.Label.data.toList y.Label.data.toList
   have r:=xej x.Label.data.toList y.Label.data.toList
   have e2:=xrD y.Label x.Label
   simp [-getElem?_pos,Qct_r0,hx,hi,hy,h0,e,e2,xrh,show 0<i by omega,xdm (show 0<i by omega) (show i<1000000000000000000 by omega),xal (show i<1000000000000000000 by omega)]
   have c2:xe2 y.Label x.Label=-xe2 x.Label y.Label:=c
   have r2:xe2 x.Label y.Label=-1∨xe2 x.Label y.Label=0∨xe2 x.Label y.Label=1:=r
   rw [c2]
   cases xb7 x<;>rcases r2 with r2 | r2 | r2<;>simp [r2]
 ·simp [Qct_r0]
 ·unfold xci
  cases xe7 (xrh l) 0 l<;>simp) k
def xbN (p:List ByteArray):List Int:=p.flatMap xbM
def xbt (e:xat):List Int:=xbM e.Label++([e.Kind,e.Value,(e.Path.length:Int)]++xbN e.Path)
theorem xdE:∀(p:List ByteArray),(xbN p).length=p.length+xbl ByteArray.size p
 | []=>rfl
 | s::p=>by
  have:=xdE p
  unfold xbN at this ⊢
  simp only [List.flatMap_cons,List.length_append,List.length_cons,xb9,xbl,this]
  omega
theorem xgh (e:xat):(xbt e).length=xaz e+4:=by
 simp only [xbt,List.length_append,xb9,xdE,List.length_cons,List.length_nil,xaz]
 omega
theorem xwn (e:xat) (h:xaz e≤33554432) (k):call Qfx [.agg (xaD e)] k=k [ints (xbt e)]:=xaa (fun k=>by
 obtain ⟨h1,h2⟩:=xhw h
 obtain ⟨hl,hs⟩:=xj4 h2
 have e1:=xuE e.Label (show e.Label.size<1000000000 by omega)
 have e2:=xb9 e.Label
 simp only [Qfx,un,cur0,e1,xaA,List.length_map,xaf,xbF,true_and,show (3:Nat)≤16777216 by omega,ints,xbh,e2,List.length_cons,List.length_nil,show e.Label.size+1+(0+1+1+1)<1073741824 by omega,xaw,xdo,xai]
 refine xby e.Path (fun i=>[strs e.Path,I e.Path.length,I i,.list 1 [],ints (xbM e.Label++([e.Kind,e.Value,(e.Path.length:Int)]++xbN (e.Path.take i)))]) (by simp [ints,xbN]) (fun i x hx hi K=>?_) fun K=>?_
 ·have e3:=xuE x (show x.size<1000000000 by have:=hs x (xbb hx);omega)
  have e4:xbN (e.Path.take (i+1))=xbN (e.Path.take i)++xbM x:=by
   unfold xbN;rw [xaW hx,List.flatMap_append];simp
  have e5:(xbN (e.Path.take i)).length≤67108864:=by
   rw [xdE]
   have:=xcI ByteArray.size e.Path i
   have:(e.Path.take i).length≤e.Path.length:=by simp;omega
   omega
  have e6:=xb9 x
  have e7:=hs x (xbb hx)
  rw [e4]
  generalize xbN (e.Path.take i)=A at e5
  simp [-getElem?_pos,Qfx_r0,hx,hi,e3,ints,xbh,e2,e6,xal (show i<1000000000000000000 by omega)]
  try (intros;omega)
 ·simp [Qfx_r0,xbt,ints]) k
theorem xuD (e:xat) (h:xaz e≤33554432) (k):call Qfy [.agg (xaD e)] k=k [I (xdB (227::xbt e))]:=xaa (fun k=>by
 have hl:=xgh e
 have e1:=xwn e h
 have e2:=xmN (227::xbt e) (by simp;omega)
 have e3:PV.list 1 ([I 227]::(xbt e).map rI)=ints (227::xbt e):=by simp [ints]
 simp [Qfy,xbF,e1,xbh,show 1+(xbt e).length<1073741824 by omega]
 rw [e3,e2]
 simp
 try (intros;omega)) k
theorem xwL (e:xat) (h:xaz e≤33554432) (k):call Qcw [.agg (xaD e)] k=k [ints (xbt e)]:=xaa (fun k=>by
 obtain ⟨h1,h2⟩:=xhw h
 obtain ⟨hl,hs⟩:=xj4 h2
 have e1:=xuS e.Label (show e.Label.size<1000000000 by omega)
 have e2:=xb9 e.Label
 simp only [Qcw,un,cur0,e1,xaA,List.length_map,xaf,xbF,true_and,show (3:Nat)≤16777216 by omega,ints,xbh,e2,List.length_cons,List.length_nil,show e.Label.size+1+(0+1+1+1)<1073741824 by omega,xaw,xdo,xai]
 refine xby e.Path (fun i=>[I i,.str e.Label,I e.Kind,I e.Value,strs e.Path,.list 1 [],ints (xbM e.Label++([e.Kind,e.Value,(e.Path.length:Int)]++xbN (e.Path.take i)))]) (by simp [ints,xbN]) (fun i x hx hi K=>?_) fun K=>?_
 ·have e3:=xuS x (show x.size<1000000000 by have:=hs x (xbb hx);omega)
  have e4:xbN (e.Path.take (i+1))=xbN (e.Path.take i)++xbM x:=by
   unfold xbN;rw [xaW hx,List.flatMap_append];simp
  have e5:(xbN (e.Path.take i)).length≤67108864:=by
   rw [xdE]
   have:=xcI ByteArray.size e.Path i
   have:(e.Path.take i).length≤e.Path.length:=by simp;omega
   omega
  have e6:=xb9 x
  have e7:=hs x (xbb hx)
  rw [e4]
  generalize xbN (e.Path.take i)=A at e5
  simp [-getElem?_pos,Qcw_r0,hx,hi,e3,ints,xbh,e2,e6,xal (show i<1000000000000000000 by omega)]
  try (intros;omega)
 ·simp [Qcw_r0,xbt,ints]) k
theorem xuR (e:xat) (h:xaz e≤33554432) (k):call Qcx [.agg (xaD e)] k=k [I (xdB (227::xbt e))]:=xaa (fun k=>by
 have hl:=xgh e
 have e1:=xwL e h
 have e2:=xmP (227::xbt e) (by simp;omega)
 have e3:PV.list 1 ([I 227]::(xbt e).map rI)=ints (227::xbt e):=by simp [ints]
 simp [Qcx,xbF,e1,xbh,show 1+(xbt e).length<1073741824 by omega]
 rw [e3,e2]
 simp
 try (intros;omega)) k
def xeb (e:xat):Int:=xdB (227::xbt e)
theorem xuC (l:List xat) (h:xbf l≤33554432) (k):call Qfz [.one (.list 4 (l.map xaD))] k=k [ints (l.map xeb)]:=xaa (fun k=>by
 obtain ⟨hl,hx0⟩:=xbj h
 simp only [Qfz,xaA,List.length_map,xaw,xdo,xai,true_and,show (0:Nat)≤16777216 by omega]
 refine xby l (fun i=>[.list 4 (l.map xaD),I l.length,I i,.list 1 [],ints ((l.take i).map xeb)]) (by simp [ints]) (fun i x hx hi K=>?_) fun K=>?_
 ·have e:=xuD x (hx0 x (xbb hx))
  simp [-getElem?_pos,Qfz_r0,hx,hi,e,xbF,ints,xbh,xaW hx,show i<1073741823 by omega,show min i l.length<1073741823 by omega,xeb,xal (show i<1000000000000000000 by omega)]
  try (intros;omega)
 ·simp [Qfz_r0]) k
theorem xuQ (l:List xat) (h:xbf l≤33554432) (k):call Qcy [.one (.list 4 (l.map xaD))] k=k [ints (l.map xeb)]:=xaa (fun k=>by
 obtain ⟨hl,hx0⟩:=xbj h
 simp only [Qcy,xaA,List.length_map,xaw,xdo,xai,true_and,show (0:Nat)≤16777216 by omega]
 refine xby l (fun i=>[.list 4 (l.map xaD),I i,.list 1 [],ints ((l.take i).map xeb)]) (by simp [ints]) (fun i x hx hi K=>?_) fun K=>?_
 ·have e:=xuR x (hx0 x (xbb hx))
  simp [-getElem?_pos,Qcy_r0,hx,hi,e,xbF,ints,xbh,xaW hx,show i<1073741823 by omega,show min i l.length<1073741823 by omega,xeb,xal (show i<1000000000000000000 by omega)]
  try (intros;omega)
 ·simp [Qcy_r0]) k
def xhP (a b:Int):Int:=xdB [229,a,b]
def xbg:List Int→List Int
 | a::b::l=>xhP a b::xbg l
 | [a]=>[a]
 | []=>[]
theorem xed:∀(n:Nat) (m r:List Int),m.length=2*n→xbg (m++r)=xbg m++xbg r
 | 0,[],r,_=>rfl
 | 0,_::_,r,h=>by simp at h
 | n+1,[],r,h=>by simp at h
 | n+1,[a],r,h=>by simp at h;omega
 | n+1,a::b::m,r,h=>by
  have:=xed n m r (by simp at h;omega)
  simp [xbg,this]
theorem xcJ:∀(l:List Int),(xbg l).length≤l.length∧(2≤l.length→(xbg l).length<l.length)∧(1≤l.length→1≤(xbg l).length)
 | []=>by simp [xbg]
 | [a]=>by simp [xbg]
 | a::b::l=>by
  have:=xcJ l
  simp only [xbg,List.length_cons]
  omega
def xnO:Nat→List Int→Int
 | 0,_=>0
 | n+1,l=>if 1<l.length then xnO n (xbg l) else l.headD 0
def xtR (l:List Int):Int:=if l.length=0 then xdB [229] else xnO (l.length+1) l
def xiX (l:List xat):Int:=xdB [231,(l.length:Int),xtR (l.map xeb)]
theorem xuB (a b:Int) (k):call Qgb [.one (I a),.one (I b)] k=k [I (xhP a b)]:=xaa (fun k=>by
 have eh:∀(l:List Int),l.length<1000→∀k,call Qga [.one (ints l)] k=k [I (xdB l)]:=fun l hl=>xaa (fun k=>by simp [Qga,xmN l (by omega)])
 have e:=eh [229,a,b] (by simp)
 rw [show ints [229,a,b]=PV.list 1 [[I 229],[I a],[I b]] from rfl] at e
 simp [Qgb,xbF,e,xhP]) k
theorem xuA (l:List Int) (h:l.length≤33554432) (k):call Qgc [.one (ints l)] k=k [ints (xbg l)]:=xaa (fun k=>by
 simp only [Qgc,xaw,xdo,xai,true_and,show (0:Nat)≤16777216 by omega]
 refine xnc ((l.length+1) / 2) (fun j=>[ints l,I ((2*j:Nat):Int),.list 1 [],ints (xbg (l.take (2*j)))]) (by simp [ints,xbg]) (fun j hj K=>?_) fun K=>?_
 ·have hlt:2*j<l.length:=by omega
  obtain ⟨x,hx⟩:∃x,l[2*j]? = some x:=⟨l[2*j],List.getElem?_eq_getElem hlt⟩
  have t1:l.take (2*j+1)=l.take (2*j)++[x]:=xaW hx
  have hll:(l.take (2*j)).length=2*j:=by simp;omega
  have hA:(xbg (l.take (2*j))).length≤33554432:=by have:=(xcJ (l.take (2*j))).1;omega
  have w1:IntKind.i64.wrap (((2*j:Nat):Int)+1)=((2*j+1:Nat):Int):=by rw [xbK (by omega) (by omega)];omega
  have w2:IntKind.i64.wrap (((2*j:Nat):Int)+2)=((2*(j+1):Nat):Int):=by rw [xbK (by omega) (by omega)];omega
  by_cases h2:2*j+1<l.length
  ·obtain ⟨y,hy⟩:∃y,l[2*j+1]? = some y:=⟨l[2*j+1],List.getElem?_eq_getElem h2⟩
   have t2:l.take (2*(j+1))=l.take (2*j)++[x,y]:=by
    rw [show 2*(j+1)=2*j+1+1 by omega,xaW hy,t1];simp
   rw [t2,xed j _ _ hll]
   generalize xbg (l.take (2*j))=A at hA
   simp only [Qgc_r0,un,cur0,xaq,xbd,xaA,ints,List.length_map,xah,w1,w2,show decide (((2*j:Nat):Int)<(l.length:Int))=true by simp;omega,show decide (((2*j+1:Nat):Int)<(l.length:Int))=true by simp;omega,if_true,xaj,Int.toNat_natCast,List.getElem?_map,hx,hy,Option.map_some,show (0:Int)≤((2*j:Nat):Int) by omega,show (0:Int)≤((2*j+1:Nat):Int) by omega,true_and,xaf,xuB,xbF,xbh,List.length_cons,List.length_nil,show A.length+(0+1)<1073741824 by omega]
   simp [xbg]
  ·have t2:l.take (2*(j+1))=l.take (2*j)++[x]:=by
    rw [←t1,List.take_of_length_le (by omega),List.take_of_length_le (by omega)]
   rw [t2,xed j _ _ hll]
   generalize xbg (l.take (2*j))=A at hA
   simp only [Qgc_r0,un,cur0,xaq,xbd,xaA,ints,List.length_map,xah,w1,w2,show decide (((2*j:Nat):Int)<(l.length:Int))=true by simp;omega,show decide (((2*j+1:Nat):Int)<(l.length:Int))=false by simp;omega,if_true,Bool.false_eq_true,if_false,xaj,Int.toNat_natCast,List.getElem?_map,hx,Option.map_some,show (0:Int)≤((2*j:Nat):Int) by omega,true_and,xaf,xbF,xbh,List.length_cons,List.length_nil,show A.length+(0+1)<1073741824 by omega]
   simp [xbg]
 ·have:l.take (2*((l.length+1) / 2))=l:=List.take_of_length_le (by omega)
  rw [this]
  simp only [Qgc_r0,un,cur0,xaq,xaA,ints,List.length_map,xah,show decide (((2*((l.length+1) / 2):Nat):Int)<(l.length:Int))=false by simp;omega]
  simp) k
theorem xr7 (k:List PV→Prop):∀(n:Nat) (l:List Int),l.length<n→1≤l.length→l.length≤33554432→(lp (fun L w=>Qgd_r0 w L (fun q3 q4=>xaj 1 q3 (I 0) fun c5=>rt [.sc] [atP c5 0] k)) [ints l,I 0]↔k [I (xnO n l)])
 | 0,l,h,_,_=>by omega
 | n+1,l,h,h1,h2=>by
  unfold xnO
  by_cases hl:1<l.length
  ·have ha:=xcJ l
   have ih:=xr7 k n (xbg l) (by omega) (by omega) (by omega)
   rw [if_pos hl]
   refine (xbV fun K=>?_).trans ih
   have e:=xuA l h2
   simp [Qgd_r0,show (1:Int)<l.length by omega,e]
  ·rw [if_neg hl]
   refine xaI fun K=>?_
   match l,h1,hl with
   | [a],_,_=>simp [Qgd_r0,ints,xaj]
   | _::_::_,_,hl=>simp at hl
theorem xwm (l:List Int) (h:l.length≤33554432) (k):call Qgd [.one (ints l)] k=k [I (xtR l)]:=xaa (fun k=>by
 have eh:∀(l:List Int),l.length<1000→∀k,call Qga [.one (ints l)] k=k [I (xdB l)]:=fun l hl=>xaa (fun k=>by simp [Qga,xmN l (by omega)])
 unfold xtR
 by_cases h0:l.length=0
 ·have:l=[]:=List.eq_nil_of_length_eq_zero h0
  subst this
  have e:=eh [229] (by simp)
  rw [show ints [229]=PV.list 1 [[I 229]] from rfl] at e
  simp [Qgd,xbF,e]
 ·rw [if_neg h0]
  have e:=xr7 k (l.length+1) l (by omega) (by omega) h
  rw [←e]
  simp [Qgd,show ¬(l.length:Int)=0 by omega,show ¬l=[] by (rintro rfl;simp at h0)]) k
theorem xuz (a b:Int) (k):call Qge [.one (I a),.one (I b)] k=k [I (xdB [231,a,b])]:=xaa (fun k=>by
 have eh:∀(l:List Int),l.length<1000→∀k,call Qga [.one (ints l)] k=k [I (xdB l)]:=fun l hl=>xaa (fun k=>by simp [Qga,xmN l (by omega)])
 have e:=eh [231,a,b] (by simp)
 rw [show ints [231,a,b]=PV.list 1 [[I 231],[I a],[I b]] from rfl] at e
 simp [Qge,xbF,e]) k
theorem xuy (l:List xat) (h:xbf l≤33554432) (k):call Qgf [.one (.list 4 (l.map xaD))] k=k [I (xiX l)]:=xaa (fun k=>by
 have hl:=(xbj h).1
 have e1:=xuC l h
 have e2:=xwm (l.map xeb) (by simpa using hl)
 simp [Qgf,e1,e2,xuz,xiX]) k
theorem xuP (a b:Int) (k):call Qcz [.one (I a),.one (I b)] k=k [I (xhP a b)]:=xaa (fun k=>by
 have eh:∀(l:List Int),l.length<1000→∀k,call Qbu [.one (ints l)] k=k [I (xdB l)]:=fun l hl=>xmP l (by omega)
 have e:=eh [229,a,b] (by simp)
 rw [show ints [229,a,b]=PV.list 1 [[I 229],[I a],[I b]] from rfl] at e
 simp [Qcz,xbF,e,xhP]) k
theorem xuO (l:List Int) (h:l.length≤33554432) (k):call Qda [.one (ints l)] k=k [ints (xbg l)]:=xaa (fun k=>by
 simp only [Qda,xaw,xdo,xai,true_and,show (0:Nat)≤16777216 by omega]
 refine xnc ((l.length+1) / 2) (fun j=>[ints l,I ((2*j:Nat):Int),.list 1 [],ints (xbg (l.take (2*j)))]) (by simp [ints,xbg]) (fun j hj K=>?_) fun K=>?_
 ·have hlt:2*j<l.length:=by omega
  obtain ⟨x,hx⟩:∃x,l[2*j]? = some x:=⟨l[2*j],List.getElem?_eq_getElem hlt⟩
  have t1:l.take (2*j+1)=l.take (2*j)++[x]:=xaW hx
  have hll:(l.take (2*j)).length=2*j:=by simp;omega
  have hA:(xbg (l.take (2*j))).length≤33554432:=by have:=(xcJ (l.take (2*j))).1;omega
  have w1:IntKind.i64.wrap (((2*j:Nat):Int)+1)=((2*j+1:Nat):Int):=by rw [xbK (by omega) (by omega)];omega
  have w2:IntKind.i64.wrap (((2*j:Nat):Int)+2)=((2*(j+1):Nat):Int):=by rw [xbK (by omega) (by omega)];omega
  by_cases h2:2*j+1<l.length
  ·obtain ⟨y,hy⟩:∃y,l[2*j+1]? = some y:=⟨l[2*j+1],List.getElem?_eq_getElem h2⟩
   have t2:l.take (2*(j+1))=l.take (2*j)++[x,y]:=by
    rw [show 2*(j+1)=2*j+1+1 by omega,xaW hy,t1];simp
   rw [t2,xed j _ _ hll]
   generalize xbg (l.take (2*j))=A at hA
   simp only [Qda_r0,un,cur0,xaq,xbd,xaA,ints,List.length_map,xah,w1,w2,show decide (((2*j:Nat):Int)<(l.length:Int))=true by simp;omega,show decide (((2*j+1:Nat):Int)<(l.length:Int))=true by simp;omega,if_true,xaj,Int.toNat_natCast,List.getElem?_map,hx,hy,Option.map_some,show (0:Int)≤((2*j:Nat):Int) by omega,show (0:Int)≤((2*j+1:Nat):Int) by omega,true_and,xaf,xuP,xbF,xbh,List.length_cons,List.length_nil,show A.length+(0+1)<1073741824 by omega]
   simp [xbg]
  ·have t2:l.take (2*(j+1))=l.take (2*j)++[x]:=by
    rw [←t1,List.take_of_length_le (by omega),List.take_of_length_le (by omega)]
   rw [t2,xed j _ _ hll]
   generalize xbg (l.take (2*j))=A at hA
   simp only [Qda_r0,un,cur0,xaq,xbd,xaA,ints,List.length_map,xah,w1,w2,show decide (((2*j:Nat):Int)<(l.length:Int))=true by simp;omega,show decide (((2*j+1:Nat):Int)<(l.length:Int))=false by simp;omega,if_true,Bool.false_eq_true,if_false,xaj,Int.toNat_natCast,List.getElem?_map,hx,Option.map_some,show (0:Int)≤((2*j:Nat):Int) by omega,true_and,xaf,xbF,xbh,List.length_cons,List.length_nil,show A.length+(0+1)<1073741824 by omega]
   simp [xbg]
 ·have:l.take (2*((l.length+1) / 2))=l:=List.take_of_length_le (by omega)
  rw [this]
  simp only [Qda_r0,un,cur0,xaq,xaA,ints,List.length_map,xah,show decide (((2*((l.length+1) / 2):Nat):Int)<(l.length:Int))=false by simp;omega]
  simp) k
theorem xr8 (k:List PV→Prop):∀(n:Nat) (l:List Int),l.length<n→1≤l.length→l.length≤33554432→(lp (fun L w=>Qdb_r0 w L (fun q3 q4=>xaj 1 q4 (I 0) fun c5=>rt [.sc] [atP c5 0] k)) [I 0,ints l]↔k [I (xnO n l)])
 | 0,l,h,_,_=>by omega
 | n+1,l,h,h1,h2=>by
  unfold xnO
  by_cases hl:1<l.length
  ·have ha:=xcJ l
   have ih:=xr8 k n (xbg l) (by omega) (by omega) (by omega)
   rw [if_pos hl]
   refine (xbV fun K=>?_).trans ih
   have e:=xuO l h2
   simp [Qdb_r0,show (1:Int)<l.length by omega,e]
  ·rw [if_neg hl]
   refine xaI fun K=>?_
   match l,h1,hl with
   | [a],_,_=>simp [Qdb_r0,ints,xaj]
   | _::_::_,_,hl=>simp at hl
theorem xwK (l:List Int) (h:l.length≤33554432) (k):call Qdb [.one (ints l)] k=k [I (xtR l)]:=xaa (fun k=>by
 have eh:∀(l:List Int),l.length<1000→∀k,call Qbu [.one (ints l)] k=k [I (xdB l)]:=fun l hl=>xmP l (by omega)
 unfold xtR
 by_cases h0:l.length=0
 ·have:l=[]:=List.eq_nil_of_length_eq_zero h0
  subst this
  have e:=eh [229] (by simp)
  rw [show ints [229]=PV.list 1 [[I 229]] from rfl] at e
  simp [Qdb,xbF,e]
 ·rw [if_neg h0]
  have e:=xr8 k (l.length+1) l (by omega) (by omega) h
  rw [←e]
  simp [Qdb,show ¬(l.length:Int)=0 by omega,show ¬l=[] by (rintro rfl;simp at h0)]) k
theorem xuN (a b:Int) (k):call Qdc [.one (I a),.one (I b)] k=k [I (xdB [231,a,b])]:=xaa (fun k=>by
 have eh:∀(l:List Int),l.length<1000→∀k,call Qbu [.one (ints l)] k=k [I (xdB l)]:=fun l hl=>xmP l (by omega)
 have e:=eh [231,a,b] (by simp)
 rw [show ints [231,a,b]=PV.list 1 [[I 231],[I a],[I b]] from rfl] at e
 simp [Qdc,xbF,e]) k
theorem xuM (l:List xat) (h:xbf l≤33554432) (k):call Qdd [.one (.list 4 (l.map xaD))] k=k [I (xiX l)]:=xaa (fun k=>by
 have hl:=(xbj h).1
 have e1:=xuQ l h
 have e2:=xwK (l.map xeb) (by simpa using hl)
 simp [Qdd,e1,e2,xuN,xiX]) k
def xhT (root:Int) (l:List xat):Bool:=xci l&&decide (xiX l=root)
theorem xwl (root:Int) (l:List xat) (h:xbf l≤33554432) (k):call Qgg [.one (I root),.one (.list 4 (l.map xaD))] k=k [.bool (xhT root l)]:=xaa (fun k=>by
 have e1:=xuF l h
 have e2:=xuy l h
 simp only [Qgg,e1,e2,xaG,xd4,xaf,xah,xaw,xao,xai,xan,true_and]
 exact xcb fun _=>Iff.rfl) k
theorem xwJ (root:Int) (l:List xat) (h:xbf l≤33554432) (k):call Qde [.one (I root),.one (.list 4 (l.map xaD))] k=k [.bool (xhT root l)]:=xaa (fun k=>by
 have e1:=xuT l h
 have e2:=xuM l h
 simp only [Qde,e1,e2,xaG,xd4,xaf,xah,xaw,xao,xai,xan,true_and]
 exact xcb fun _=>Iff.rfl) k
def xc9 (z:xb8):Bool:=match xdq z.Chain with | some p=>decide (p.Count=(z.Entries.length:Int))&&xhT p.Root z.Entries | none=>false
theorem xie {l:List xag} {p:xa9} (h:xdq l=some p):xaN l=true∧∃s,l[l.length-1]? = some s∧s.Head=p:=by
 unfold xdq at h
 split at h
 ·rename_i hc
  obtain ⟨s,hs,hp⟩:=Option.map_eq_some_iff.1 h
  exact ⟨hc,s,hs,hp⟩
 ·cases h
theorem xjz {l:List xag} (h:xdq l=none):xaN l=false:=by
 unfold xdq at h
 cases hc:xaN l with
 | false=>rfl
 | true =>
  obtain ⟨p,hp,_⟩:=xe4 hc
  rw [hc,if_pos rfl,hp] at h;cases h
theorem xhj {z:xb8} (h:xb0 z≤33554432):xar z.Chain≤33554432∧xbf z.Entries≤33554432:=by unfold xb0 at h;omega
theorem xuL (z:xb8) (h:xb0 z≤33554432) (k):call Qdf [.agg (xcO z)] k=k [.bool (xc9 z)]:=xaa (fun k=>by
 obtain ⟨h1,h2⟩:=xhj h
 have e:=xrE z.Chain h1
 unfold xc9
 cases hs:xdq z.Chain with
 | none=>simp [Qdf,e,hs,xeg,xd6]
 | some p =>
  have e2:=xwJ p.Root z.Entries h2
  simp [Qdf,e,hs,xeg,e2]
  by_cases hc:p.Count=(z.Entries.length:Int)<;>simp [hc]) k
theorem xux (z:xb8) (h:xb0 z≤33554432) (k):call Qgh [.agg (xcO z)] k=k [.bool (xc9 z)]:=xaa (fun k=>by
 obtain ⟨h1,h2⟩:=xhj h
 have e:=xol z.Chain h1
 unfold xc9
 cases hs:xdq z.Chain with
 | none=>simp [Qgh,e,xjz hs]
 | some p =>
  obtain ⟨hc,s,hp,rfl⟩:=xie hs
  have e1:=xti z.Chain s (xbP h1).1 hp
  have e2:=xwl s.Head.Root z.Entries h2
  simp [Qgh,e,hc,e1,e2]
  by_cases hc:s.Head.Count=(z.Entries.length:Int)<;>simp [hc]) k
def xgx (z:xb8):Int:=if xc9 z=true then (match xdq z.Chain with | some p=>p.Zone | none=>-1) else -1
theorem xkK {z:xb8} (h:xc9 z=true):∃p,xdq z.Chain=some p:=by
 unfold xc9 at h
 cases hs:xdq z.Chain with
 | none=>rw [hs] at h;cases h
 | some p=>exact ⟨p,rfl⟩
theorem xwI (z:xb8) (h:xb0 z≤33554432) (k):call Qdg [.agg (xcO z)] k=k [I (xgx z)]:=xaa (fun k=>by
 obtain ⟨h1,h2⟩:=xhj h
 have e1:=xrE z.Chain h1
 have e2:=xuL z h
 unfold xgx
 cases hz:xc9 z with
 | false=>cases hs:xdq z.Chain<;>simp [Qdg,e1,e2,hz,hs,xeg,xd6]
 | true =>
  obtain ⟨p,hp⟩:=xkK hz
  simp [Qdg,e1,e2,hz,hp,xeg]) k
theorem xwk (z:xb8) (h:xb0 z≤33554432) (k):call Qgi [.agg (xcO z)] k=k [I (xgx z)]:=xaa (fun k=>by
 obtain ⟨h1,h2⟩:=xhj h
 have e2:=xux z h
 unfold xgx
 cases hz:xc9 z with
 | false=>simp [Qgi,e2,hz]
 | true =>
  obtain ⟨p,hp⟩:=xkK hz
  obtain ⟨hc,s,hs,rfl⟩:=xie hp
  have e1:=xti z.Chain s (xbP h1).1 hs
  simp [Qgi,e1,e2,hz,hp]) k
theorem xnH {l:List xb8} (h:xcy l≤1048576):l.length≤1048576∧∀z∈l,xb0 z≤1048576:=by
 unfold xcy at h
 refine ⟨by omega,fun z hz=>?_⟩
 have:=xbn (s:=xb0) hz
 omega
theorem xhk {l:List xb8} (h:xcy l≤33554432):l.length≤33554432∧∀z∈l,xb0 z≤33554432:=by
 unfold xcy at h
 refine ⟨by omega,fun z hz=>?_⟩
 have:=xbn (s:=xb0) hz
 omega
theorem xhv {α:Type} (p:α→Bool):∀(l:List α) (i:Nat),xey p i l=-1∨((i:Int)≤xey p i l∧xey p i l<(i:Int)+l.length)
 | [],i=>.inl rfl
 | x::l,i=>by
  unfold xey
  split
  ·right;simp;omega
  ·rcases xhv p l (i+1) with h | ⟨h1,h2⟩
   ·exact .inl h
   ·right;rw [List.length_cons];omega
theorem xlv {α:Type} (p:Nat→α→Bool):∀(i:Nat) (l:List α),xkq p i l<0→∀j x,l[j]? = some x→p (i+j) x=false
 | i,[],_,j,x,hx=>by simp at hx
 | i,y::l,h,j,x,hx=>by
  rw [xkq] at h
  split at h
  ·omega
  ·rename_i hp
   cases j with
   | zero=>simp at hx;subst hx;simpa using hp
   | succ j =>
    have:=xlv p (i+1) l h j x (by simpa using hx)
    rwa [show i+(j+1)=i+1+j by omega]
theorem xqN {p:xa9} {s:xag} (h:xnP p s=true):xcD s.Head=true:=by
 unfold xnP xoN at h
 cases h1:xcD s.Head with
 | true=>rfl
 | false=>rw [h1] at h;cases h2:xcD p<;>simp [h2] at h
theorem xpn {l:List xag} {p:xa9} (h:xdq l=some p):xcD p=true:=by
 obtain ⟨hc,s,hs,rfl⟩:=xie h
 unfold xaN at hc
 simp only [Bool.and_eq_true,decide_eq_true_eq] at hc
 have:=xlv (xfq l) 0 l hc.2 (l.length-1) s hs
 unfold xfq at this
 split at this
 ·have h2:xcQ s=true:=by simpa using this
  unfold xcQ at h2
  simp only [Bool.and_eq_true] at h2
  exact h2.1
 ·split at this
  ·exact xqN (by simpa using this)
  ·cases this
theorem xif {l:List xag} {p:xa9} (h:xdq l=some p):(0≤p.Count∧p.Count≤12)∧0≤p.Zone:=by
 have:=xpn h
 unfold xcD inR at this
 simp only [Bool.and_eq_true,decide_eq_true_eq] at this
 omega
abbrev xd3 (l:List xag):List PV:=[.list 17 (l.map xam)]
theorem xgp {x:IntKind} {m n:Int} {k:PV→Prop}:xac .xor (.int x m) (.int x n) k=k (.int x (x.wrap ((BitVec.ofInt x.bits m ^^^ BitVec.ofInt x.bits n).toNat:Int))):=by simp [xac]
def xrW (s:ByteArray) (e:xat):Bool:=decide (e.Label=s)
def xcg (l:List xat) (s:ByteArray):Int:=idx (xrW s) l
theorem xm1 (l:List xat) (s:ByteArray):xcg l s=-1∨(0≤xcg l s∧xcg l s<l.length):=by
 have:=xhv (xrW s) l 0
 simpa [xcg,idx] using this
theorem xs9 (l:List xat) (s:ByteArray) (h:l.length≤33554432) (k):call Qiq [.one (.list 4 (l.map xaD)),.one (.str s)] k=k [I (xcg l s)]:=xaa (fun k=>by
 have e:∀k,call Qip [.one (.list 4 (l.map xaD)),.fn 358 [.cells [.str s]]] k=k [I (xcg l s)]:=xaa (fun k=>by
  simp [Qip]
  refine xdv (Q:=fun i=>k [I i]) l (fun i=>[.list 4 (l.map xaD),.str s,I 0,I l.length,I i]) (xrW s) rfl (fun i x hx hi K=>?_) fun K=>?_
  ·have e1:∀k,call Qio [.agg (xaD x),.ro (.cells [.str s])] k=k [.bool (xrW s x)]:=xaa (fun k=>by
    simp [Qio,xrW])
   simp only [Qip_r0,un,cur0,xaq,show (i:Int)<(l.length:Int) by omega,decide_true,xah,if_true,xaj,Int.toNat_natCast,List.getElem?_map,hx,Option.map_some,show (0:Int)≤(i:Int) by omega,true_and,xaf,xbi,e1,xbd,xal (show i<1000000000000000000 by omega)]
   cases xrW s x<;>simp
  ·simp [Qip_r0])
 simp [Qiq,e]) k
theorem xtf (l:List xat) (s:ByteArray) (h:l.length≤33554432) (k):call Qhi [.one (.list 4 (l.map xaD)),.one (.str s)] k=k [I (xcg l s)]:=xaa (fun k=>by
 simp only [Qhi]
 refine xdv (Q:=fun i=>k [I i]) l (fun i=>[.list 4 (l.map xaD),.str s,I 0,I i]) (xrW s) rfl (fun i x hx hi K=>?_) fun K=>?_
 ·by_cases hq:x.Label=s<;>simp [-getElem?_pos,Qhi_r0,hx,hi,hq,xrW,xal (show i<1000000000000000000 by omega)]
 ·simp [Qhi_r0]) k
theorem xse (i:Nat):i ^^^ 1=if i % 2=0 then i+1 else i-1:=by
 have h1:(i ^^^ 1) / 2=i / 2:=by rw [Nat.xor_div_two];simp
 have t:(i ^^^ 1).testBit 0=!(i.testBit 0):=by rw [Nat.testBit_xor];cases i.testBit 0<;>rfl
 have h2:(i ^^^ 1) % 2=(i+1) % 2:=by
  simp only [Nat.testBit_zero] at t
  generalize i ^^^ 1=j at *
  by_cases hi:i % 2=1<;>by_cases hj:j % 2=1<;>simp [hi,hj] at t<;>omega
 split<;>omega
def sib (i:Nat):Nat:=if i % 2=0 then i+1 else i-1
theorem xow (i:Nat) (h:i<1000000000000):IntKind.i64.wrap ((BitVec.ofInt IntKind.i64.bits (i:Int) ^^^ BitVec.ofInt IntKind.i64.bits 1).toNat:Int)=((sib i:Nat):Int):=by
 show IntKind.i64.wrap ((BitVec.ofInt 64 (i:Int) ^^^ BitVec.ofInt 64 1).toNat:Int)=_
 have e:(BitVec.ofInt 64 (i:Int) ^^^ BitVec.ofInt 64 1).toNat=sib i:=by
  rw [BitVec.toNat_xor]
  have e1:(BitVec.ofInt 64 (i:Int)).toNat=i:=by rw [BitVec.toNat_ofInt];omega
  have e2:(BitVec.ofInt 64 1).toNat=1:=rfl
  rw [e1,e2,xse];rfl
 rw [e]
 have:sib i≤i+1:=by unfold sib;split<;>omega
 exact xbK (by omega) (by omega)
def xcu:Nat→List Int→Nat→List Int
 | 0,_,_=>[]
 | n+1,l,i=>if 1<l.length then (match l[sib i]? with | some x=>[x] | none=>[])++xcu n (xbg l) (i / 2) else []
theorem xjj:∀(n:Nat) (l:List Int) (i:Nat),(xcu n l i).length≤l.length
 | 0,_,_=>Nat.zero_le _
 | n+1,l,i=>by
  unfold xcu
  have ha:=xcJ l
  split
  ·have:=xjj n (xbg l) (i / 2)
   rw [List.length_append]
   split<;>simp<;>omega
  ·simp
def xj3 (l:List Int) (i:Int):List Int:=if 0≤i∧i≤(l.length:Int)-1 then xcu (l.length+1) l i.toNat else []
theorem xoJ (l:List Int) (i:Int):(xj3 l i).length≤l.length:=by
 unfold xj3;split
 ·exact xjj _ _ _
 ·simp
theorem xeX (k:List PV→Prop) (a:PV):∀(n:Nat) (l:List Int) (i:Nat) (acc:List Int),l.length<n→l.length≤33554432→i≤33554432→acc.length+l.length≤128000000 →
 (lp (fun L w=>Qir_r0 w L (fun q11 q12 q13 q14=>rt [.own true 3 1] [q14] k)) [ints l,I i,a,ints acc]↔k [ints (acc++xcu n l i)])
 | 0,l,i,acc,h,_,_,_=>by omega
 | n+1,l,i,acc,h,h1,h2,h3=>by
  have ha:=xcJ l
  by_cases hl:1<l.length
  ·have e:=xuA l h1
   have hsib:sib i≤i+1:=by unfold sib;split<;>omega
   have w4:IntKind.i64.wrap ((i:Int) / 2)=(i:Int) / 2:=xbK (by omega) (by omega)
   have ht:(i:Int).tmod 2=(i:Int) % 2:=Int.tmod_eq_emod_of_nonneg (by omega)
   cases hx:l[sib i]? with
   | some x =>
    have hlt:=xaK hx
    have ih:=xeX k a n (xbg l) (i / 2) (acc++[x]) (by omega) (by omega) (by omega) (by simp;omega)
    rw [List.append_assoc,show [x]++xcu n (xbg l) (i / 2)=xcu (n+1) l i by simp [xcu,hl,hx]] at ih
    refine (xbV fun K=>?_).trans ih
    have hb:(acc.map rI).length+[[I x]].length<1073741824:=by simp;omega
    simp only [Qir_r0,un,cur0,ints,xaA,List.length_map,xbJ,show (1:Int)<(l.length:Int) by omega,decide_true,xah,if_true,xgp,xow i (by omega),xaq,show ((sib i:Nat):Int)<(l.length:Int) by omega,xaj,Int.toNat_natCast,List.getElem?_map,hx,Option.map_some,show (0:Int)≤((sib i:Nat):Int) by omega,true_and,xaf,xbF,xfV,hb]
    simp only [ints] at e
    simp [e,w4]
    intro _;omega
   | none =>
    have hge:l.length≤sib i:=by simpa using hx
    have ih:=xeX k a n (xbg l) (i / 2) acc (by omega) (by omega) (by omega) (by omega)
    rw [show xcu n (xbg l) (i / 2)=xcu (n+1) l i by simp [xcu,hl,hx]] at ih
    refine (xbV fun K=>?_).trans ih
    simp only [Qir_r0,un,cur0,ints,xaA,List.length_map,xbJ,show (1:Int)<(l.length:Int) by omega,decide_true,xah,if_true,xgp,xow i (by omega),xaq,show ¬((sib i:Nat):Int)<(l.length:Int) by omega,decide_false,Bool.false_eq_true,if_false]
    simp only [ints] at e
    simp [e,w4]
  ·refine xaI fun K=>?_
   have:xcu (n+1) l i=[]:=by simp [xcu,hl]
   rw [this,List.append_nil]
   simp [Qir_r0,show ¬(1:Int)<(l.length:Int) by omega]
theorem xeL (k:List PV→Prop) (a:PV):∀(n:Nat) (l:List Int) (i:Nat) (acc:List Int),l.length<n→l.length≤33554432→i≤33554432→acc.length+l.length≤128000000 →
 (lp (fun L w=>Qhj_r0 w L (fun q11 q12 q13 q14=>rt [.own true 3 1] [q14] k)) [I i,ints l,a,ints acc]↔k [ints (acc++xcu n l i)])
 | 0,l,i,acc,h,_,_,_=>by omega
 | n+1,l,i,acc,h,h1,h2,h3=>by
  have ha:=xcJ l
  by_cases hl:1<l.length
  ·have e:=xuO l h1
   have hsib:sib i≤i+1:=by unfold sib;split<;>omega
   have w4:IntKind.i64.wrap ((i:Int) / 2)=(i:Int) / 2:=xbK (by omega) (by omega)
   have ht:(i:Int).tmod 2=(i:Int) % 2:=Int.tmod_eq_emod_of_nonneg (by omega)
   have w1:IntKind.i64.wrap ((i:Int)+1)=(i:Int)+1:=xbK (by omega) (by omega)
   have w2:IntKind.i64.wrap (2*(i:Int).tmod 2)=2*(i:Int).tmod 2:=by rw [ht];exact xbK (by omega) (by omega)
   have w3:IntKind.i64.wrap ((i:Int)+1-2*(i:Int).tmod 2)=((sib i:Nat):Int):=by
    rw [show (i:Int)+1-2*(i:Int).tmod 2=((sib i:Nat):Int) by rw [ht];unfold sib;split<;>omega]
    exact xbK (by omega) (by omega)
   cases hx:l[sib i]? with
   | some x =>
    have hlt:=xaK hx
    have ih:=xeL k a n (xbg l) (i / 2) (acc++[x]) (by omega) (by omega) (by omega) (by simp;omega)
    rw [List.append_assoc,show [x]++xcu n (xbg l) (i / 2)=xcu (n+1) l i by simp [xcu,hl,hx]] at ih
    refine (xbV fun K=>?_).trans ih
    have hb:(acc.map rI).length+[[I x]].length<1073741824:=by simp;omega
    simp only [Qhj_r0,un,cur0,ints,xaA,List.length_map,xbJ,show (1:Int)<(l.length:Int) by omega,decide_true,xah,if_true,xbd,xcB,xnA,xbB,w1,w2,w3,xaq,show ((sib i:Nat):Int)<(l.length:Int) by omega,xaj,Int.toNat_natCast,List.getElem?_map,hx,Option.map_some,show (0:Int)≤((sib i:Nat):Int) by omega,true_and,xaf,xbF,xfV,hb]
    simp only [ints] at e
    simp [e,w4,w2,w3]
    intro _;omega
   | none =>
    have hge:l.length≤sib i:=by simpa using hx
    have ih:=xeL k a n (xbg l) (i / 2) acc (by omega) (by omega) (by omega) (by omega)
    rw [show xcu n (xbg l) (i / 2)=xcu (n+1) l i by simp [xcu,hl,hx]] at ih
    refine (xbV fun K=>?_).trans ih
    simp only [Qhj_r0,un,cur0,ints,xaA,List.length_map,xbJ,show (1:Int)<(l.length:Int) by omega,decide_true,xah,if_true,xbd,xcB,xnA,xbB,w1,w2,w3,xaq,show ¬((sib i:Nat):Int)<(l.length:Int) by omega,decide_false,Bool.false_eq_true,if_false]
    simp only [ints] at e
    simp [e,w4,w2,w3,show ¬((sib i:Nat):Int)<(l.length:Int) by omega]
  ·refine xaI fun K=>?_
   have:xcu (n+1) l i=[]:=by simp [xcu,hl]
   rw [this,List.append_nil]
   simp [Qhj_r0,show ¬(1:Int)<(l.length:Int) by omega]
theorem xvT (l:List Int) (i:Int) (h:l.length≤33554432) (k):call Qir [.one (ints l),.one (I i)] k=k [ints (xj3 l i)]:=xaa (fun k=>by
 have w:IntKind.i64.wrap ((l.length:Int)-1)=(l.length:Int)-1:=xbK (by omega) (by omega)
 have e:∀k,call Qdw [.one (I i),.one (I 0),.one (I ((l.length:Int)-1))] k=k [.bool (decide (0≤i∧i≤(l.length:Int)-1))]:=xaa (fun k=>by
  by_cases h1:0≤i<;>simp [Qdw,h1])
 by_cases hc:0≤i∧i≤(l.length:Int)-1
 ·have e2:=xeX k (.list 1 []) (l.length+1) l i.toNat [] (by omega) h (by omega) (by simp;omega)
  rw [List.nil_append,show ((i.toNat:Nat):Int)=i by omega] at e2
  simp only [ints] at e2
  simp [Qir,w,e,hc,xj3,ints]
  simpa using e2
 ·simp [Qir,w,e,hc,xj3,ints]) k
theorem xv7 (l:List Int) (i:Int) (h:l.length≤33554432) (k):call Qhj [.one (ints l),.one (I i)] k=k [ints (xj3 l i)]:=xaa (fun k=>by
 have w:IntKind.i64.wrap ((l.length:Int)-1)=(l.length:Int)-1:=xbK (by omega) (by omega)
 have e:∀k,call Qbo [.one (I i),.one (I 0),.one (I ((l.length:Int)-1))] k=k [.bool (decide (0≤i∧i≤(l.length:Int)-1))]:=xaa (fun k=>by
  by_cases h1:0≤i<;>simp [Qbo,h1])
 by_cases hc:0≤i∧i≤(l.length:Int)-1
 ·have e2:=xeL k (.list 1 []) (l.length+1) l i.toNat [] (by omega) h (by omega) (by simp;omega)
  rw [List.nil_append,show ((i.toNat:Nat):Int)=i by omega] at e2
  simp only [ints] at e2
  simp [Qhj,w,e,hc,xj3,ints]
  simpa using e2
 ·simp [Qhj,w,e,hc,xj3,ints]) k
def xd9 (l:List xat) (s:ByteArray):xcv:=if xcg l s<0 then ⟨0,[]⟩ else ⟨xcg l s,xj3 (l.map xeb) (xcg l s)⟩
theorem xru (l:List xat) (s:ByteArray) (h:xbf l≤33554432) (k):call Qis [.one (.list 4 (l.map xaD)),.one (.str s)] k=k (xcT (xd9 l s)++[.bool (!decide (xcg l s<0))]):=xaa (fun k=>by
 have hl:=(xbj h).1
 have e1:=xs9 l s hl
 have e2:=xuC l h
 have e3:=xvT (l.map xeb) (xcg l s) (by simpa using hl)
 by_cases hc:xcg l s<0
 ·simp [Qis,e1,hc,xd9,ints]
 ·simp [Qis,e1,e2,e3,hc,xd9]) k
theorem xrx (l:List xat) (s:ByteArray) (h:xbf l≤33554432) (k):call Qhk [.one (.list 4 (l.map xaD)),.one (.str s)] k=k (xcT (xd9 l s)++[.bool (!decide (xcg l s<0))]):=xaa (fun k=>by
 have hl:=(xbj h).1
 have e1:=xtf l s hl
 have e2:=xuQ l h
 have e3:=xv7 (l.map xeb) (xcg l s) (by simpa using hl)
 by_cases hc:xcg l s<0
 ·simp [Qhk,e1,hc,xd9,ints]
 ·simp [Qhk,e1,e2,e3,hc,xd9]) k
def xfo (l:List xat) (s:ByteArray):Nat:=l.countP fun e=>decide (xe2 e.Label s<0)
theorem xmX (l:List xat) (s:ByteArray):xfo l s≤l.length:=List.countP_le_length
theorem xjc {α:Type} (p:α→Bool) {l:List α} {i:Nat} {x:α} (hx:l[i]? = some x):(l.take (i+1)).countP p=(l.take i).countP p+if p x=true then 1 else 0:=by
 rw [xaW hx,List.countP_append,List.countP_cons,List.countP_nil];simp
theorem xvS (l:List xat) (s:ByteArray) (h:l.length≤33554432) (k):call Qit [.one (.list 4 (l.map xaD)),.one (.str s)] k=k [I (xfo l s)]:=xaa (fun k=>by
 simp only [Qit,xaA,List.length_map]
 refine xby l (fun i=>[.str s,I 0,I (((l.take i).countP fun e=>decide (xe2 e.Label s<0):Nat):Int),.list 4 (l.map xaD),I l.length,I i]) rfl (fun i x hx hi K=>?_) fun K=>?_
 ·have hc:(l.take i).countP (fun e=>decide (xe2 e.Label s<0))≤i:=Nat.le_trans List.countP_le_length (by simp;omega)
  have t:=xjc (fun e:xat=>decide (xe2 e.Label s<0)) hx
  by_cases hq:xe2 x.Label s<0
  ·rw [decide_eq_true hq,if_pos rfl] at t
   simp [-getElem?_pos,Qit_r0,hx,hi,xry,hq,t,xal (show i<1000000000000000000 by omega),xal (show (l.take i).countP (fun e=>decide (xe2 e.Label s<0))<1000000000000000000 by omega)]
  ·rw [decide_eq_false hq,if_neg (by simp)] at t
   simp [-getElem?_pos,Qit_r0,hx,hi,xry,hq,t,xal (show i<1000000000000000000 by omega)]
 ·simp [Qit_r0,xfo]) k
theorem xv6 (l:List xat) (s:ByteArray) (h:l.length≤33554432) (k):call Qhl [.one (.list 4 (l.map xaD)),.one (.str s)] k=k [I (xfo l s)]:=xaa (fun k=>by
 simp only [Qhl]
 refine xby l (fun i=>[.list 4 (l.map xaD),.str s,I 0,I (((l.take i).countP fun e=>decide (xe2 e.Label s<0):Nat):Int),I i]) rfl (fun i x hx hi K=>?_) fun K=>?_
 ·have hc:(l.take i).countP (fun e=>decide (xe2 e.Label s<0))≤i:=Nat.le_trans List.countP_le_length (by simp;omega)
  have t:=xjc (fun e:xat=>decide (xe2 e.Label s<0)) hx
  by_cases hq:xe2 x.Label s<0
  ·rw [decide_eq_true hq,if_pos rfl] at t
   simp [-getElem?_pos,Qhl_r0,hx,hi,xrD,hq,t,xal (show i<1000000000000000000 by omega),xal (show (l.take i).countP (fun e=>decide (xe2 e.Label s<0))<1000000000000000000 by omega)]
  ·rw [decide_eq_false hq,if_neg (by simp)] at t
   simp [-getElem?_pos,Qhl_r0,hx,hi,xrD,hq,t,xal (show i<1000000000000000000 by omega)]
 ·simp [Qhl_r0,xfo]) k
def xc7:xat:=⟨⟨#[]⟩,0,0,[]⟩
def zPr:xcv:=⟨0,[]⟩
def xdl:xkI:=⟨0,xc7,xc7,zPr,zPr⟩
def xgD (l:List xat) (s:ByteArray):Bool:=!xci l||(!xb2 s||decide (0≤xcg l s))
def xqy (l:List xat) (s:ByteArray):xkI :=
 let r:=xfo l s
 ⟨r,if 0<r then l.getD (r-1) xc7 else xc7,if r<l.length then l.getD r xc7 else xc7,
  if 0<r then xd9 l (l.getD (r-1) xc7).Label else zPr,if r<l.length then xd9 l (l.getD r xc7).Label else zPr⟩
def xnQ (l:List xat) (s:ByteArray):xkI:=if xgD l s=true then xdl else xqy l s
theorem xvR (l:List xat) (s:ByteArray) (h:xbf l≤33554432) (hs:s.size≤33554432) (k):call Qiu [.one (.list 4 (l.map xaD)),.one (.str s)] k=k (xl6 (xnQ l s)++[.bool (!xgD l s)]):=xaa (fun k=>by
 have hl:=(xbj h).1
 have hm:=(xbj h).2
 have e1:=xs9 l s hl
 have e2:=xuF l h
 have e3:=xp9 s hs
 have e4:=xvS l s hl
 cases c1:xci l
 ·simp [Qiu,e2,c1,xnQ,xgD,xdl,xc7,zPr,ints,strs]
 cases c2:xb2 s
 ·simp [Qiu,e2,e3,c1,c2,xnQ,xgD,xdl,xc7,zPr,ints,strs]
 by_cases c3:0≤xcg l s
 ·simp [Qiu,e1,e2,e3,c1,c2,c3,xnQ,xgD,xdl,xc7,zPr,ints,strs]
 have hn:xgD l s=false:=by simp [xgD,c1,c2,c3]
 have hr:=xmX l s
 rw [hn,xnQ,hn,xqy]
 generalize xfo l s=r at *
 have w:IntKind.i64.wrap ((r:Int)-1)=((r-1:Nat):Int)∨r=0:=by
  by_cases h0:r=0
  ·exact .inr h0
  ·left;rw [xbK (by omega) (by omega)];omega
 have hg:∀i,i<l.length→∃x,l[i]? = some x∧l.getD i xc7=x∧xaz x≤33554432:=fun i hi=>⟨l[i],List.getElem?_eq_getElem hi,by simp [List.getD,List.getElem?_eq_getElem hi],hm _ (List.getElem_mem hi)⟩
 by_cases h0:0<r
 ·obtain ⟨x,hx1,hx2,hx3⟩:=hg (r-1) (by omega)
  have w':=w.resolve_right (by omega)
  have ex:=xkF x hx3
  have px:=xru l x.Label h
  by_cases h1:r<l.length
  ·obtain ⟨y,hy1,hy2,hy3⟩:=hg r h1
   have ey:=xkF y hy3
   have py:=xru l y.Label h
   rw [hx2,hy2]
   simp [-getElem?_pos,Qiu,e1,e2,e3,e4,c1,c2,c3,h0,h1,w',hx1,hy1,ex,ey,px,py]
  ·rw [hx2]
   simp [-getElem?_pos,Qiu,e1,e2,e3,e4,c1,c2,c3,h0,h1,w',hx1,ex,px,xc7,zPr,ints,strs]
 ·by_cases h1:r<l.length
  ·obtain ⟨y,hy1,hy2,hy3⟩:=hg r h1
   have ey:=xkF y hy3
   have py:=xru l y.Label h
   rw [hy2]
   simp [-getElem?_pos,Qiu,e1,e2,e3,e4,c1,c2,c3,h0,h1,hy1,ey,py,xc7,zPr,ints,strs]
  ·simp [-getElem?_pos,Qiu,e1,e2,e3,e4,c1,c2,c3,h0,h1,xc7,zPr,ints,strs]) k
theorem xv5 (l:List xat) (s:ByteArray) (h:xbf l≤33554432) (hs:s.size≤33554432) (k):call Qhm [.one (.list 4 (l.map xaD)),.one (.str s)] k=k (xl6 (xnQ l s)++[.bool (!xgD l s)]):=xaa (fun k=>by
 have hl:=(xbj h).1
 have hm:=(xbj h).2
 have e1:=xtf l s hl
 have e2:=xuT l h
 have e3:=xqa s hs
 have e4:=xv6 l s hl
 cases c1:xci l
 ·simp [Qhm,e2,c1,xnQ,xgD,xdl,xc7,zPr,ints,strs]
 cases c2:xb2 s
 ·simp [Qhm,e2,e3,c1,c2,xnQ,xgD,xdl,xc7,zPr,ints,strs]
 by_cases c3:0≤xcg l s
 ·simp [Qhm,e1,e2,e3,c1,c2,c3,xnQ,xgD,xdl,xc7,zPr,ints,strs]
 have hn:xgD l s=false:=by simp [xgD,c1,c2,c3]
 have hr:=xmX l s
 rw [hn,xnQ,hn,xqy]
 generalize xfo l s=r at *
 have w:IntKind.i64.wrap ((r:Int)-1)=((r-1:Nat):Int)∨r=0:=by
  by_cases h0:r=0
  ·exact .inr h0
  ·left;rw [xbK (by omega) (by omega)];omega
 have hg:∀i,i<l.length→∃x,l[i]? = some x∧l.getD i xc7=x∧xaz x≤33554432:=fun i hi=>⟨l[i],List.getElem?_eq_getElem hi,by simp [List.getD,List.getElem?_eq_getElem hi],hm _ (List.getElem_mem hi)⟩
 by_cases h0:0<r
 ·obtain ⟨x,hx1,hx2,hx3⟩:=hg (r-1) (by omega)
  have w':=w.resolve_right (by omega)
  have ex:=xkG x hx3
  have px:=xrx l x.Label h
  by_cases h1:r<l.length
  ·obtain ⟨y,hy1,hy2,hy3⟩:=hg r h1
   have ey:=xkG y hy3
   have py:=xrx l y.Label h
   rw [hx2,hy2]
   simp [-getElem?_pos,Qhm,e1,e2,e3,e4,c1,c2,c3,h0,h1,w',hx1,hy1,ex,ey,px,py]
  ·rw [hx2]
   simp [-getElem?_pos,Qhm,e1,e2,e3,e4,c1,c2,c3,h0,h1,w',hx1,ex,px,xc7,zPr,ints,strs]
 ·by_cases h1:r<l.length
  ·obtain ⟨y,hy1,hy2,hy3⟩:=hg r h1
   have ey:=xkG y hy3
   have py:=xrx l y.Label h
   rw [hy2]
   simp [-getElem?_pos,Qhm,e1,e2,e3,e4,c1,c2,c3,h0,h1,hy1,ey,py,xc7,zPr,ints,strs]
  ·simp [-getElem?_pos,Qhm,e1,e2,e3,e4,c1,c2,c3,h0,h1,xc7,zPr,ints,strs]) k
def xf0:xau:=⟨[],false,xc7,zPr,xdl⟩
def xdr (z:xb8) (s:ByteArray):xau :=
 if (xc9 z&&xb2 s)=true then (if 0≤xcg z.Entries s then ⟨z.Chain,true,z.Entries.getD (xcg z.Entries s).toNat xc7,xd9 z.Entries s,xdl⟩ else ⟨z.Chain,false,xc7,zPr,xnQ z.Entries s⟩) else xf0
theorem xvQ (z:xb8) (s:ByteArray) (h:xb0 z≤33554432) (hs:s.size≤33554432) (k):call Qiv [.agg (xcO z),.one (.str s)] k=k (xax (xdr z s)):=xaa (fun k=>by
 obtain ⟨hc,he⟩:=xjW h
 have hl:=(xbj he).1
 have hm:=(xbj he).2
 have e1:=xux z h
 have e2:=xp9 s hs
 have e3:=xrC z.Chain hc
 have e4:=xs9 z.Entries s hl
 have e5:=xru z.Entries s he
 have e6:=xvR z.Entries s he hs
 cases c1:xc9 z
 ·simp [Qiv,e1,c1,xdr,xf0,xax,xdl,xc7,zPr,ints,strs]
 cases c2:xb2 s
 ·simp [Qiv,e1,e2,c1,c2,xdr,xf0,xax,xdl,xc7,zPr,ints,strs]
 by_cases c3:0≤xcg z.Entries s
 ·rcases xm1 z.Entries s with hb | ⟨hb1,hb2⟩
  ·omega
  have hi:(xcg z.Entries s).toNat<z.Entries.length:=by omega
  have hx:z.Entries[(xcg z.Entries s).toNat]? = some z.Entries[(xcg z.Entries s).toNat]:=List.getElem?_eq_getElem hi
  have hd:z.Entries.getD (xcg z.Entries s).toNat xc7=z.Entries[(xcg z.Entries s).toNat]:=by simp [List.getD,hx]
  have hmx:=hm _ (List.getElem_mem hi)
  generalize z.Entries[(xcg z.Entries s).toNat]=x at *
  have e7:=xkF x hmx
  simp [-getElem?_pos,Qiv,e1,e2,e3,e4,e5,e7,c1,c2,c3,hx,xdr,hd,xax,xdl,xc7,zPr,ints,strs]
 ·simp [Qiv,e1,e2,e3,e4,e6,c1,c2,c3,xdr,xax,xc7,zPr,ints,strs]) k
theorem xv4 (z:xb8) (s:ByteArray) (h:xb0 z≤33554432) (hs:s.size≤33554432) (k):call Qhn [.agg (xcO z),.one (.str s)] k=k (xax (xdr z s)):=xaa (fun k=>by
 obtain ⟨hc,he⟩:=xjW h
 have hl:=(xbj he).1
 have hm:=(xbj he).2
 have e1:=xuL z h
 have e2:=xqa s hs
 have e3:=xrL z.Chain hc
 have e4:=xtf z.Entries s hl
 have e5:=xrx z.Entries s he
 have e6:=xv5 z.Entries s he hs
 cases c1:xc9 z
 ·simp [Qhn,e1,c1,xdr,xf0,xax,xdl,xc7,zPr,ints,strs]
 cases c2:xb2 s
 ·simp [Qhn,e1,e2,c1,c2,xdr,xf0,xax,xdl,xc7,zPr,ints,strs]
 by_cases c3:0≤xcg z.Entries s
 ·rcases xm1 z.Entries s with hb | ⟨hb1,hb2⟩
  ·omega
  have hi:(xcg z.Entries s).toNat<z.Entries.length:=by omega
  have hx:z.Entries[(xcg z.Entries s).toNat]? = some z.Entries[(xcg z.Entries s).toNat]:=List.getElem?_eq_getElem hi
  have hd:z.Entries.getD (xcg z.Entries s).toNat xc7=z.Entries[(xcg z.Entries s).toNat]:=by simp [List.getD,hx]
  have hmx:=hm _ (List.getElem_mem hi)
  generalize z.Entries[(xcg z.Entries s).toNat]=x at *
  have e7:=xkG x hmx
  simp [-getElem?_pos,Qhn,e1,e2,e3,e4,e5,e7,c1,c2,c3,hx,xdr,hd,xax,xdl,xc7,zPr,ints,strs]
 ·simp [Qhn,e1,e2,e3,e4,e6,c1,c2,c3,xdr,xax,xc7,zPr,ints,strs]) k
def xj2 (zone:Int) (z:xb8):Bool:=(xgx z==zone)&&decide (0≤zone)
def xaZ (s:xa0) (zone:Int):Int:=idx (xj2 zone) s.Zones
theorem xjJ {α:Type} {p:α→Bool} (h:∀x,p x=false):∀(l:List α) (i:Nat),xey p i l=-1
 | [],_=>rfl
 | x::l,i=>by unfold xey;rw [h x];exact xjJ h l (i+1)
theorem xji (s:xa0) (zone:Int):xaZ s zone=-1∨(0≤xaZ s zone∧xaZ s zone<s.Zones.length):=by
 have:=xhv (xj2 zone) s.Zones 0
 simpa [xaZ,idx] using this
theorem xvU (s:xa0) (zone:Int) (h:xaY s≤33554432) (k):call Qin [.agg (xaQ s),.one (I zone)] k=k [I (xaZ s zone)]:=xaa (fun k=>by
 by_cases c:zone<0
 ·have e:xaZ s zone=-1:=xjJ (fun x=>by simp [xj2,show ¬0≤zone by omega]) s.Zones 0
  simp [Qin,c,e]
 ·obtain ⟨hl,hz⟩:=xhk (show xcy s.Zones≤33554432 from h)
  have e:∀k,call Qim [.one (.list 2 (s.Zones.map xcO)),.fn 249 [.cells [I zone]]] k=k [I (xaZ s zone)]:=xaa (fun k=>by
   simp [Qim]
   refine xdv (Q:=fun i=>k [I i]) s.Zones (fun i=>[.list 2 (s.Zones.map xcO),I zone,I 0,I s.Zones.length,I i]) (xj2 zone) rfl (fun i x hx hi K=>?_) fun K=>?_
   ·have hm:=hz x (List.mem_of_getElem? hx)
    have e1:∀k,call Qil [.agg (xcO x),.ro (.cells [I zone])] k=k [.bool (xj2 zone x)]:=xaa (fun k=>by
     simp [Qil,xwk x hm,xj2,show 0≤zone by omega])
    cases hq:xj2 zone x<;>simp [-getElem?_pos,Qim_r0,hx,hi,e1,hq,xal (show i<1000000000000000000 by omega)]
   ·simp [Qim_r0])
  simp [Qin,c,e]) k
theorem xv8 (s:xa0) (zone:Int) (h:xaY s≤33554432) (k):call Qhh [.agg (xaQ s),.one (I zone)] k=k [I (xaZ s zone)]:=xaa (fun k=>by
 obtain ⟨hl,hz⟩:=xhk (show xcy s.Zones≤33554432 from h)
 simp only [Qhh,un,cur0]
 refine xdv (Q:=fun i=>k [I i]) s.Zones (fun i=>[I zone,I 0,I i,.list 2 (s.Zones.map xcO),I s.Lie]) (xj2 zone) rfl (fun i x hx hi K=>?_) fun K=>?_
 ·have hm:=hz x (List.mem_of_getElem? hx)
  by_cases c1:xgx x=zone<;>by_cases c2:0≤zone<;>simp [-getElem?_pos,Qhh_r0,hx,hi,xwI x hm,c1,c2,xj2,xal (show i<1000000000000000000 by omega)]
 ·simp [Qhh_r0]) k
def xjk (s:xa0) (zone:Int) (label:ByteArray):xau :=
 if xaZ s zone<0∨s.Lie=4 then xf0 else
 let a:=xdr (s.Zones.getD (xaZ s zone).toNat ⟨[],[]⟩) label
 if s.Lie=1 then { a with Entry:={ a.Entry with Value:=IntKind.i64.wrap (a.Entry.Value+1) } }
 else if s.Lie=2 then { a with Chain:=a.Chain.take (a.Chain.length-1) }
 else if s.Lie=3 then { xf0 with Chain:=a.Chain } else a
theorem xvP (s:xa0) (zone:Int) (label:ByteArray) (h:xaY s≤33554432) (hs:label.size≤33554432) (k):call Qiw [.agg (xaQ s),.one (I zone),.one (.str label)] k=k (xax (xjk s zone label)):=xaa (fun k=>by
 obtain ⟨hl,hz⟩:=xhk (show xcy s.Zones≤33554432 from h)
 have e1:=xvU s zone h
 by_cases c1:xaZ s zone<0
 ·simp [Qiw,e1,c1,xjk,xf0,xax,xdl,xc7,zPr,ints,strs]
 by_cases c2:s.Lie=4
 ·have f:=e1
  simp only [xaQ,c2] at f
  simp [Qiw,e1,f,c1,c2,xjk,xf0,xax,xdl,xc7,zPr,ints,strs]
 rcases xji s zone with hb | ⟨hb1,hb2⟩
 ·omega
 have hi:(xaZ s zone).toNat<s.Zones.length:=by omega
 have hx:s.Zones[(xaZ s zone).toNat]? = some s.Zones[(xaZ s zone).toNat]:=List.getElem?_eq_getElem hi
 have hd:s.Zones.getD (xaZ s zone).toNat ⟨[],[]⟩=s.Zones[(xaZ s zone).toNat]:=by simp [List.getD,hx]
 have hm:=hz _ (List.getElem_mem hi)
 unfold xjk
 rw [hd]
 generalize s.Zones[(xaZ s zone).toNat]=z at *
 have e2:=xvQ z label hm hs
 have hlen:(xdr z label).Chain.length≤33554432:=by
  have h1:z.Chain.length≤33554432:=(xgm (xjW hm).1).1
  unfold xdr;split
  ·split<;>exact h1
  ·exact Nat.zero_le _
 generalize xdr z label=a at *
 by_cases c3:s.Lie=1
 ·have f:=e1
  simp only [xaQ,c3] at f
  simp [-getElem?_pos,Qiw,e1,f,c1,c2,hx,show 0≤xaZ s zone by omega,e2,c3,xax]
 by_cases c4:s.Lie=2
 ·have f:=e1
  simp only [xaQ,c4] at f
  have w:IntKind.i64.wrap ((a.Chain.length:Int)-1)=(a.Chain.length:Int)-1:=xbK (by omega) (by omega)
  by_cases c6:(1:Int)<(a.Chain.length:Int)
  ·have c7:((a.Chain.length:Int)-1).toNat=a.Chain.length-1:=by omega
   simp [-getElem?_pos,Qiw,e1,f,c1,c2,hx,show 0≤xaZ s zone by omega,e2,c3,c4,w,xax,xtK,c6,xgE,c7,xfS,show (0:Int)≤(a.Chain.length:Int)-1 by omega,show (1:Int)≤(a.Chain.length:Int) by omega]
   intro _;omega
  ·have c7:a.Chain.length-1=0:=by omega
   simp [-getElem?_pos,Qiw,e1,f,c1,c2,hx,show 0≤xaZ s zone by omega,e2,c3,c4,w,xax,xtK,c6,xgE,c7,xfS]
 by_cases c5:s.Lie=3
 ·have f:=e1
  simp only [xaQ,c5] at f
  simp [-getElem?_pos,Qiw,e1,f,c1,c2,hx,show 0≤xaZ s zone by omega,e2,c3,c4,c5,xf0,xax,xdl,xc7,zPr,ints,strs]
 ·simp [-getElem?_pos,Qiw,e1,c1,c2,hx,show 0≤xaZ s zone by omega,e2,c3,c4,c5]) k
theorem xv3 (s:xa0) (zone:Int) (label:ByteArray) (h:xaY s≤33554432) (hs:label.size≤33554432) (k):call Qho [.agg (xaQ s),.one (I zone),.one (.str label)] k=k (xax (xjk s zone label)):=xaa (fun k=>by
 obtain ⟨hl,hz⟩:=xhk (show xcy s.Zones≤33554432 from h)
 have e1:=xv8 s zone h
 by_cases c1:xaZ s zone<0
 ·simp [Qho,e1,c1,xjk,xf0,xax,xdl,xc7,zPr,ints,strs]
 by_cases c2:s.Lie=4
 ·have f:=e1
  simp only [xaQ,c2] at f
  simp [Qho,e1,f,c1,c2,xjk,xf0,xax,xdl,xc7,zPr,ints,strs]
 rcases xji s zone with hb | ⟨hb1,hb2⟩
 ·omega
 have hi:(xaZ s zone).toNat<s.Zones.length:=by omega
 have hx:s.Zones[(xaZ s zone).toNat]? = some s.Zones[(xaZ s zone).toNat]:=List.getElem?_eq_getElem hi
 have hd:s.Zones.getD (xaZ s zone).toNat ⟨[],[]⟩=s.Zones[(xaZ s zone).toNat]:=by simp [List.getD,hx]
 have hm:=hz _ (List.getElem_mem hi)
 unfold xjk
 rw [hd]
 generalize s.Zones[(xaZ s zone).toNat]=z at *
 have e2:=xv4 z label hm hs
 have hlen:(xdr z label).Chain.length≤33554432:=by
  have h1:z.Chain.length≤33554432:=(xgm (xjW hm).1).1
  unfold xdr;split
  ·split<;>exact h1
  ·exact Nat.zero_le _
 generalize xdr z label=a at *
 by_cases c3:s.Lie=1
 ·have f:=e1
  simp only [xaQ,c3] at f
  simp [-getElem?_pos,Qho,e1,f,c1,c2,hx,show 0≤xaZ s zone by omega,e2,c3,xax]
 by_cases c4:s.Lie=2
 ·have f:=e1
  simp only [xaQ,c4] at f
  have w:IntKind.i64.wrap ((a.Chain.length:Int)-1)=(a.Chain.length:Int)-1:=xbK (by omega) (by omega)
  by_cases c6:0<a.Chain.length
  ·have c7:((a.Chain.length:Int)-1).toNat=a.Chain.length-1:=by omega
   simp [-getElem?_pos,Qho,e1,f,c1,c2,hx,show 0≤xaZ s zone by omega,e2,c3,c4,w,xax,c6,xgE,c7,xfS,show (1:Int)≤(a.Chain.length:Int) by omega]
   intro _;omega
  ·have c7:a.Chain=[]:=List.eq_nil_of_length_eq_zero (by omega)
   simp [-getElem?_pos,Qho,e1,f,c1,c2,hx,show 0≤xaZ s zone by omega,e2,c3,c4,w,xax,c7]
 by_cases c5:s.Lie=3
 ·have f:=e1
  simp only [xaQ,c5] at f
  simp [-getElem?_pos,Qho,e1,f,c1,c2,hx,show 0≤xaZ s zone by omega,e2,c3,c4,c5,xf0,xax,xdl,xc7,zPr,ints,strs]
 ·simp [-getElem?_pos,Qho,e1,c1,c2,hx,show 0≤xaZ s zone by omega,e2,c3,c4,c5]) k
theorem xvv:xaz xc7=0:=rfl
theorem xhO (l:List xat) (s:ByteArray):xbo (xd9 l s)≤l.length:=by
 unfold xd9 xbo
 split
 ·exact Nat.zero_le _
 ·have:=xoJ (l.map xeb) (xcg l s)
  simpa using this
theorem xis {l:List xat} (hm:∀x∈l,xaz x≤1048576) (i:Nat):xaz (l.getD i xc7)≤1048576:=by
 rw [List.getD_eq_getElem?_getD]
 cases h:l[i]? with
 | none=>exact Nat.zero_le _
 | some x=>exact hm x (List.mem_of_getElem? h)
theorem xoM {l:List xat} (hl:l.length≤1048576) (hm:∀x∈l,xaz x≤1048576) (s:ByteArray):xg0 (xnQ l s)≤4194304:=by
 unfold xnQ
 split
 ·exact Nat.zero_le _
 ·simp only [xqy,xg0]
  have z1:xbo zPr=0:=rfl
  have z2:=xvv
  have a1:xaz (if 0<xfo l s then l.getD (xfo l s-1) xc7 else xc7)≤1048576:=by
   split
   ·exact xis hm _
   ·omega
  have a2:xaz (if xfo l s<l.length then l.getD (xfo l s) xc7 else xc7)≤1048576:=by
   split
   ·exact xis hm _
   ·omega
  have a3:xbo (if 0<xfo l s then xd9 l (l.getD (xfo l s-1) xc7).Label else zPr)≤1048576:=by
   split
   ·exact Nat.le_trans (xhO _ _) hl
   ·omega
  have a4:xbo (if xfo l s<l.length then xd9 l (l.getD (xfo l s) xc7).Label else zPr)≤1048576:=by
   split
   ·exact Nat.le_trans (xhO _ _) hl
   ·omega
  omega
theorem xoQ {z:xb8} (h:xb0 z≤1048576) (s:ByteArray):xar (xdr z s).Chain≤1048576∧xaz (xdr z s).Entry≤1048576∧xbo (xdr z s).Proof≤1048576∧xg0 (xdr z s).Gap≤4194304:=by
 obtain ⟨hc,he⟩:=xos h
 have hl:=(xg5 he).1
 have hm:=(xg5 he).2
 unfold xdr
 split
 ·split
  ·exact ⟨hc,xis hm _,Nat.le_trans (xhO _ _) hl,Nat.zero_le _⟩
  ·exact ⟨hc,Nat.zero_le _,Nat.zero_le _,xoM hl hm s⟩
 ·exact ⟨Nat.zero_le _,Nat.zero_le _,Nat.zero_le _,Nat.zero_le _⟩
theorem mz0:xaL xf0=0:=rfl
theorem xoP {s:xa0} (h:xaY s≤1048576) (zone:Int) (label:ByteArray):xaL (xjk s zone label)≤16777216:=by
 obtain ⟨hl,hz⟩:=xnH (show xcy s.Zones≤1048576 from h)
 unfold xjk
 split
 ·rw [mz0];omega
 ·have hm:xb0 (s.Zones.getD (xaZ s zone).toNat ⟨[],[]⟩)≤1048576:=by
   rw [List.getD_eq_getElem?_getD]
   cases h:s.Zones[(xaZ s zone).toNat]? with
   | none=>exact Nat.zero_le _
   | some x=>exact hz x (List.mem_of_getElem? h)
  obtain ⟨b1,b2,b3,b4⟩:=xoQ hm label
  generalize xdr (s.Zones.getD (xaZ s zone).toNat ⟨[],[]⟩) label=a at *
  have hA:xaL a≤16777216:=by unfold xaL;omega
  dsimp only
  split
  ·have:xaL { a with Entry:={ a.Entry with Value:=IntKind.i64.wrap (a.Entry.Value+1) } }=xaL a:=rfl
   rw [this];exact hA
  ·split
   ·have h1:=xcI xav a.Chain (a.Chain.length-1)
    have h2:xar (a.Chain.take (a.Chain.length-1))≤xar a.Chain:=by
     show (a.Chain.take (a.Chain.length-1)).length+xbl xav (a.Chain.take (a.Chain.length-1))≤a.Chain.length+xbl xav a.Chain
     rw [List.length_take];omega
    show xar (a.Chain.take (a.Chain.length-1))+(xaz a.Entry+(xbo a.Proof+xg0 a.Gap))≤16777216
    omega
   ·split
    ·show xar a.Chain+(xaz xc7+(xbo zPr+xg0 xdl))≤16777216
     have:xaz xc7+(xbo zPr+xg0 xdl)=0:=rfl
     omega
    ·exact hA
theorem xsV {α:Type} {l m r s:List α} (h:l.length=m.length):l++r=m++s↔l=m∧r=s :=
 ⟨fun e=>List.append_inj e h,fun ⟨a,b⟩=>by rw [a,b]⟩
theorem xli {a b:xb1} {r s:List Int}:xa3 a++r=xa3 b++s↔a=b∧r=s:=by
 obtain ⟨l,n⟩:=a
 obtain ⟨m,q⟩:=b
 simp only [xa3,List.cons_append,List.cons.injEq,xb1.mk.injEq]
 constructor
 ·rintro ⟨rfl,h1,h2⟩
  obtain ⟨rfl,rfl⟩:=(xsV (by omega)).1 h2
  exact ⟨⟨rfl,rfl⟩,rfl⟩
 ·rintro ⟨⟨rfl,rfl⟩,rfl⟩;exact ⟨rfl,rfl,rfl⟩
theorem xre {a b:Bool}:xrf a=xrf b↔a=b:=by cases a<;>cases b<;>simp [xrf]
theorem xg3 {a b:xa9}:xa2 a=xa2 b↔a=b:=by
 obtain ⟨a1,a2,a3,a4,a5,a6,a7,a8,a9,a10,a11,a12,a13⟩:=a
 obtain ⟨b1,b2,b3,b4,b5,b6,b7,b8,b9,b10,b11,b12,b13⟩:=b
 simp only [xa2,List.cons_append,List.nil_append,List.cons.injEq,xli,xre,xa9.mk.injEq,and_true]
theorem xrt (a b:xa9) (h:xbx a≤33554432) (h':xbx b≤33554432) (k):call Qjo [.agg (xbp a),.agg (xbp b)] k=k [.bool (decide (a=b))]:=xaa (fun k=>by
 have i1:=xrz a h
 have i2:=xrz b h'
 have hl:=xc5 a
 have e:=xtk (xa2 a) (xa2 b) (by omega)
 unfold xbx at h
 have k1:=xmM a.Keys b.Keys (by omega)
 have k2:=xmM a.Heirs b.Heirs (by omega)
 have k3:=xmM a.Judge b.Judge (by omega)
 simp only [Qjo,un,cur0,k1,k2,k3,i1,i2,e,xaf,xah,xaw,xao,xai,xan,true_and,and_true,xg3]
 by_cases hk:a=b
 ·subst hk;simp
 ·simp [hk]) k
theorem xrw (a b:xa9) (h:xbx a≤33554432) (h':xbx b≤33554432) (k):call Qhq [.agg (xbp a),.agg (xbp b)] k=k [.bool (decide (a=b))]:=xaa (fun k=>by
 have i1:=xqb a h
 have i2:=xqb b h'
 have hl:=xc5 a
 have e:=xts (xa2 a) (xa2 b) (by omega)
 simp only [Qhq,un,cur0,i1,i2,e,xaf,xah,xeA,xaw,xao,xai,xan,true_and,and_true,xg3]
 by_cases hk:a=b
 ·subst hk;simp
 ·simp [hk]) k
abbrev sigs (l:List xfX):PV:=.list 2 (l.map xdf)
theorem xvG (l m:List xfX) (h:l.length<1073741824) (k):call Qjt [.one (sigs l),.one (sigs m)] k=k [.bool (decide (l=m))]:=xaa (fun k=>by
 simp [Qjt]
 by_cases hl:l.length=m.length
 ·rw [←xff]
  simp [hl]
  refine xgG k l m (fun i=>[sigs l,sigs m,.bool false,I m.length,I i]) eqD rfl hl (fun i x y hx hy hi hj K=>?_) fun K=>?_
  ·obtain ⟨a,b⟩:=x
   obtain ⟨c,d⟩:=y
   simp [-getElem?_pos,Qjt_r0,hx,hy,hj,xal (show i<1000000000000000000 by omega),xsX,sames,PV.same,xeF,xkf]
  ·simp [Qjt_r0,hl]
 ·simp [show ¬(l.length:Int)=m.length by omega,xjx hl]) k
theorem xvF (a b:xag) (h:xav a≤33554432) (h':xav b≤33554432) (k):call Qju [.agg (xam a),.agg (xam b)] k=k [.bool (decide (a=b))]:=xaa (fun k=>by
 unfold xav at h h'
 have e1:=xrt a.Head b.Head (by omega) (by omega)
 have e2:=xvG a.Sigs b.Sigs (by omega)
 obtain ⟨x,l⟩:=a
 obtain ⟨y,m⟩:=b
 simp only at e1 e2
 simp only [Qju,un,cur0,e1,e2,xaf,xah,xaw,xao,xai,xan,true_and,and_true,xag.mk.injEq,Bool.decide_and]
 by_cases hk:x=y<;>simp [hk]) k
theorem xvV (a b:xag) (h:xav a≤33554432) (h':xav b≤33554432) (k):call Qig [.agg (xam a),.agg (xam b)] k=k [.bool (decide (a=b))]:=xaa (fun k=>by
 unfold xav at h h'
 have e1:=xrw a.Head b.Head (by omega) (by omega)
 obtain ⟨x,l⟩:=a
 obtain ⟨y,m⟩:=b
 simp only at e1 h h'
 simp only [Qig,un,cur0,e1,xaf,xah,xaw,xao,xai,xan,true_and,and_true,xag.mk.injEq,Bool.decide_and]
 by_cases hk:x=y
 ·subst hk
  simp
  by_cases hl:l.length=m.length
  ·rw [←xff]
   simp [hl]
   refine xgG k l m (fun i=>[.bool false,I i]++xbp x++[sigs m]++xbp x++[sigs l]) eqD rfl hl (fun i x y hx hy hi hj K=>?_) fun K=>?_
   ·obtain ⟨a,b⟩:=x
    obtain ⟨c,d⟩:=y
    simp [-getElem?_pos,Qig_r0,hx,hy,hi,xal (show i<1000000000000000000 by omega),xsX,sames,PV.same,xeF,xkf]
   ·simp [Qig_r0,hl]
  ·simp [show ¬(l.length:Int)=m.length by omega,xjx hl]
 ·simp [hk]) k
theorem xvZ (l m:List ByteArray) (h:l.length+xbl ByteArray.size l≤33554432) (h':m.length+xbl ByteArray.size m≤33554432) (k):call Qhy [.one (.list 1 (l.map rS)),.one (.list 1 (m.map rS))] k=k [.bool (decide (l=m))]:=xaa (fun k=>by
 simp [Qhy]
 by_cases hl:l.length=m.length
 ·rw [←xff]
  simp [hl]
  refine xgG k l m (fun i=>[.list 1 (l.map rS),.list 1 (m.map rS),.bool false,I i]) eqD rfl hl (fun i x y hx hy hi hj K=>?_) fun K=>?_
  ·have s1:=xbn (s:=ByteArray.size) (xbb hx)
   have s2:=xbn (s:=ByteArray.size) (xbb hy)
   simp [-getElem?_pos,Qhy_r0,hx,hy,hi,xal (show i<1000000000000000000 by omega)]
   all_goals (by_cases hxy:x=y<;>simp [hxy])
  ·simp [Qhy_r0]
 ·simp [show ¬(l.length:Int)=m.length by omega,xjx hl]) k
theorem xvL (l m:List ByteArray) (h:l.length<1073741824) (k):call Qjb [.one (strs l),.one (strs m)] k=k [.bool (decide (l=m))]:=xaa (fun k=>by
 simp [Qjb]
 by_cases hl:l.length=m.length
 ·rw [←xff]
  simp [hl]
  refine xgG k l m (fun i=>[strs l,strs m,.bool false,I m.length,I i]) eqD rfl hl (fun i x y hx hy hi hj K=>?_) fun K=>?_
  ·simp [-getElem?_pos,Qjb_r0,hx,hy,hj,xal (show i<1000000000000000000 by omega)]
   all_goals (by_cases hxy:x=y<;>simp [hxy])
  ·simp [Qjb_r0,hl]
 ·simp [show ¬(l.length:Int)=m.length by omega,xjx hl]) k
theorem xs8 (a b:xat) (h:xaz a≤33554432) (h':xaz b≤33554432) (k):call Qjc [.agg (xaD a),.agg (xaD b)] k=k [.bool (decide (a=b))]:=xaa (fun k=>by
 unfold xaz at h h'
 obtain ⟨a1,a2,a3,l⟩:=a
 obtain ⟨b1,b2,b3,m⟩:=b
 simp only at h h'
 have e:=xvL l m (by omega)
 simp [Qjc,e]
 by_cases h1:a1=b1<;>by_cases h2:a2=b2<;>by_cases h3:a3=b3<;>simp [h1,h2,h3]) k
theorem xtc (a b:xat) (h:xaz a≤33554432) (h':xaz b≤33554432) (k):call Qhz [.agg (xaD a),.agg (xaD b)] k=k [.bool (decide (a=b))]:=xaa (fun k=>by
 unfold xaz at h h'
 obtain ⟨a1,a2,a3,l⟩:=a
 obtain ⟨b1,b2,b3,m⟩:=b
 simp only at h h'
 have e:=xvZ l m (by omega) (by omega)
 simp [Qhz,e]
 by_cases h1:a1=b1<;>by_cases h2:a2=b2<;>by_cases h3:a3=b3<;>simp [h1,h2,h3]) k
theorem xs7 (a b:xcv) (h:xbo a≤33554432) (h':xbo b≤33554432) (k):call Qjd [.agg (xcT a),.agg (xcT b)] k=k [.bool (decide (a=b))]:=xaa (fun k=>by
 unfold xbo at h h'
 obtain ⟨a1,l⟩:=a
 obtain ⟨b1,m⟩:=b
 simp only at h h'
 have e:=xtk l m (by omega)
 simp [Qjd,e]
 by_cases h1:a1=b1<;>simp [h1]) k
theorem xvK (a b:xkI) (h:xg0 a≤33554432) (h':xg0 b≤33554432) (k):call Qje [.agg (xl6 a),.agg (xl6 b)] k=k [.bool (decide (a=b))]:=xaa (fun k=>by
 unfold xg0 at h h'
 obtain ⟨a1,a2,a3,a4,a5⟩:=a
 obtain ⟨b1,b2,b3,b4,b5⟩:=b
 simp only at h h'
 have e2:=xs8 a2 b2 (by omega) (by omega)
 have e3:=xs8 a3 b3 (by omega) (by omega)
 have e4:=xs7 a4 b4 (by omega) (by omega)
 have e5:=xs7 a5 b5 (by omega) (by omega)
 simp [Qje,e2,e3,e4,e5]
 by_cases h1:a1=b1<;>by_cases h2:a2=b2<;>by_cases h3:a3=b3<;>by_cases h4:a4=b4<;>simp [h1,h2,h3,h4]) k
theorem xtb (a b:xcv) (h:xbo a≤33554432) (h':xbo b≤33554432) (k):call Qia [.agg (xcT a),.agg (xcT b)] k=k [.bool (decide (a=b))]:=xaa (fun k=>by
 unfold xbo at h h'
 obtain ⟨a1,l⟩:=a
 obtain ⟨b1,m⟩:=b
 simp only at h h'
 have e:=xts l m (by omega)
 simp [Qia,e]
 by_cases h1:a1=b1<;>simp [h1]) k
theorem xvY (a b:xkI) (h:xg0 a≤33554432) (h':xg0 b≤33554432) (k):call Qib [.agg (xl6 a),.agg (xl6 b)] k=k [.bool (decide (a=b))]:=xaa (fun k=>by
 unfold xg0 at h h'
 obtain ⟨a1,a2,a3,a4,a5⟩:=a
 obtain ⟨b1,b2,b3,b4,b5⟩:=b
 simp only at h h'
 have e2:=xtc a2 b2 (by omega) (by omega)
 have e3:=xtc a3 b3 (by omega) (by omega)
 have e4:=xtb a4 b4 (by omega) (by omega)
 have e5:=xtb a5 b5 (by omega) (by omega)
 simp [Qib,e2,e3,e4,e5]
 by_cases h1:a1=b1<;>by_cases h2:a2=b2<;>by_cases h3:a3=b3<;>by_cases h4:a4=b4<;>simp [h1,h2,h3,h4]) k
def xsw (m:List xag) (i:Nat) (x:xag):Bool:=match m[i]? with | some y=>!decide (x.Head=y.Head) | none=>true
def xiS (l m:List xag):Bool:=decide (l.length≤m.length)&&(xe7 (xsw m) 0 l==false)
theorem xhq {l:List xag} {x:xag} (h:xar l≤33554432) (hx:x∈l):xbx x.Head≤33554432:=by
 unfold xar at h
 have:=xbn (s:=xav) hx
 have e:xav x=xbx x.Head+x.Sigs.length:=rfl
 omega
theorem xne {l:List xag} (h:xar l≤33554432):l.length≤33554432:=by unfold xar at h;omega
theorem xvO (l:List xag) (h:xar l≤33554432) (k):call Qix [.one (.list 17 (l.map xam))] k=k (xeg (xdq l)):=xaa (fun k=>by
 obtain ⟨hl,hx0⟩:=xbP h
 have e:=xol l h
 unfold xdq
 cases hc:xaN l with
 | false=>simp [Qix,e,hc,xeg,xd6,ints]
 | true =>
  obtain ⟨p,hp,h0⟩:=xe4 hc
  have e2:=xti l p hl hp
  have e3:=xuK p.Head (xa5 (hx0 p (xbb hp))).1
  simp [-getElem?_pos,Qix,e,hc,e2,e3,xeg,hp]) k
def sTF:Nat→Int→Nat→Nat→List Int→Option Int
 | 0,_,_,_,_=>none
 | f+1,leaf,i,n,path=>if 1<n then
  (if i % 2=1∨i+1<n then (match path with | []=>none | p::r=>sTF f (if i % 2=1 then xhP p leaf else xhP leaf p) (i / 2) ((n+1) / 2) r)
   else sTF f leaf (i / 2) ((n+1) / 2) path)
  else (match path with | []=>some leaf | _::_=>none)
def xiZ:Option Int→List PV
 | some t=>[I t,.bool true]
 | none=>[I 0,.bool false]
theorem tmod2 (i:Nat):(i:Int).tmod 2=((i % 2:Nat):Int):=(Int.ofNat_tmod i 2).symm
theorem wdiv2 (i:Nat) (h:i<1000):IntKind.i64.wrap ((i:Int).tdiv 2)=((i / 2:Nat):Int):=by
 rw [show (i:Int).tdiv 2=((i / 2:Nat):Int) from (Int.ofNat_tdiv i 2).symm]
 exact xbK (by omega) (by omega)
theorem wsucc (i:Nat) (h:i<1000):IntKind.i64.wrap ((i:Int)+1)=((i+1:Nat):Int):=by rw [xbK (by omega) (by omega)];omega
theorem xmh (i:Nat):decide (((i % 2:Nat):Int)=1)=decide (i % 2=1):=by apply decide_eq_decide.2;omega
theorem xqM (i:Nat):decide (((i % 2:Nat):Int)=0)=!decide (i % 2=1):=by
 by_cases h:i % 2=1
 ·simp [h]
 ·have:i % 2=0:=by omega
  simp [this]
theorem xgu (k:List PV→Prop) (path:List Int) (hp:path.length≤33554432):∀(f:Nat) (leaf:Int) (i n used:Nat),n<f→n≤12→i≤12→used≤path.length →
 (lp (fun L w=>Qhw_r0 w L (k [I 0,.bool false]) fun q40 q41 q42 q43 q44 q45 q46=>xaH q43 fun r47=>xac .neq q46 r47 fun r48=>xad r48 (k [I 0,.bool false]) (rt [.sc,.sc] [q40,.bool true] k)) [I leaf,I i,I n,ints path,I 0,.bool false,I used]↔k (xiZ (sTF f leaf i n (path.drop used))))
 | 0,_,_,_,_,h,_,_,_=>by omega
 | f+1,leaf,i,n,used,h,hn,hi,hu=>by
  unfold sTF
  by_cases h1:1<n
  ·rw [if_pos h1]
   by_cases hc:i % 2=1∨i+1<n
   ·rw [if_pos hc]
    by_cases he:used=path.length
    ·rw [List.drop_of_length_le (by omega)]
     refine xaI fun K=>?_
     subst he
     simp only [Qhw_r0,un,cur0,xbJ,xcB,xaG,xcf,xbd,xaq,xd4,tmod2,xmh,wsucc i (by omega),xaA,List.length_map,xah,show decide ((1:Int)<n)=true by simp;omega,if_true]
     rcases hc with hc | hc
     ·simp [hc,xiZ]
     ·by_cases ho:i % 2=1
      ·simp [ho,xiZ]
      ·simp [ho,show ((i+1:Nat):Int)<n by omega,xiZ]
       intro h;omega
    ·obtain ⟨p,hx⟩:∃p,path[used]? = some p:=⟨path[used],List.getElem?_eq_getElem (by omega)⟩
     have hd:path.drop used=p::path.drop (used+1):=by
      rw [List.drop_eq_getElem_cons (by omega)]
      congr 1
      rw [List.getElem?_eq_getElem (by omega)] at hx
      injection hx
     rw [hd]
     simp only
     refine (xbV fun K=>?_).trans (xgu k path hp f (if i % 2=1 then xhP p leaf else xhP leaf p) (i / 2) ((n+1) / 2) (used+1) (by omega) (by omega) (by omega) (by omega))
     simp only [Qhw_r0,un,cur0,xbJ,xcB,xgq,xaG,xcf,xbd,xaq,xd4,tmod2,xmh,wsucc i (by omega),wsucc n (by omega),wdiv2 i (by omega),wdiv2 (n+1) (by omega),xal (show used<1000000000000000000 by omega),xaA,List.length_map,xah,show decide ((1:Int)<n)=true by simp;omega,show decide (((path.length:Nat):Int)≤used)=false by simp;omega,if_true,xaj,Int.toNat_natCast,List.getElem?_map,hx,Option.map_some,show (0:Int)≤used by omega,true_and,xaf,xuP]
     by_cases ho:i % 2=1
     ·simp [ho]
     ·rcases hc with hc | hc
      ·exact absurd hc ho
      ·simp [ho,show ((i+1:Nat):Int)<n by omega]
       omega
   ·rw [if_neg hc]
    refine (xbV fun K=>?_).trans (xgu k path hp f leaf (i / 2) ((n+1) / 2) used (by omega) (by omega) (by omega) hu)
    simp only [Qhw_r0,un,cur0,xbJ,xcB,xgq,xaG,xcf,xbd,xaq,xd4,tmod2,xmh,wsucc i (by omega),wsucc n (by omega),wdiv2 i (by omega),wdiv2 (n+1) (by omega),xaA,List.length_map,xah,show decide ((1:Int)<n)=true by simp;omega,if_true]
    have ho:¬i % 2=1:=fun h=>hc (.inl h)
    have hl:¬((i+1:Nat):Int)<n:=by intro h;exact hc (.inr (by omega))
    simp only [ho,hl,decide_false,Bool.false_eq_true,if_false]
    simp
  ·rw [if_neg h1]
   refine xaI fun K=>?_
   simp only [Qhw_r0,un,cur0,xbJ,xbS,bne,xd4,xaA,List.length_map,xah,show decide ((1:Int)<n)=false by simp;omega,Bool.false_eq_true,if_false,xaw,xao,xai,xas,xan,true_and,and_true]
   by_cases he:used=path.length
   ·rw [List.drop_of_length_le (by omega)]
    simp [he,xiZ]
   ·rw [List.drop_eq_getElem_cons (by omega)]
    simp [show ¬(used:Int)=path.length by omega,xiZ]
def xep (leaf at_ count:Int) (path:List Int):Option Int:=if (inR count 1 12&&inR at_ 0 (count-1))=true then sTF 13 leaf at_.toNat count.toNat path else none
theorem xv0 (leaf at_ count:Int) (path:List Int) (hp:path.length≤33554432) (k):call Qhw [.one (I leaf),.one (I at_),.one (I count),.one (ints path)] k=k (xiZ (xep leaf at_ count path)):=xaa (fun k=>by
 unfold xep
 cases h1:inR count 1 12 with
 | false=>simp [Qhw,xeK,h1,xiZ]
 | true =>
  have b1:1≤count∧count≤12:=by unfold inR at h1;simpa using h1
  have w:IntKind.i64.wrap (count-1)=count-1:=xbK (by omega) (by omega)
  cases h2:inR at_ 0 (count-1) with
  | false=>simp [Qhw,xeK,h1,w,h2,xiZ]
  | true =>
   have b2:0≤at_∧at_≤count-1:=by unfold inR at h2;simpa using h2
   have e:=xgu k path hp 13 leaf at_.toNat count.toNat 0 (by omega) (by omega) (by omega) (by omega)
   rw [show ((at_.toNat:Nat):Int)=at_ by omega,show ((count.toNat:Nat):Int)=count by omega] at e
   simp only [Bool.and_self,if_true,List.drop_zero] at e ⊢
   rw [←e]
   simp only [Qhw,xeK,h1,h2,w,xbB,xba,xaf,xah,Bool.not_true,Bool.false_eq_true,if_false,xaw,xao,xai,xas,xan,true_and]
   exact Iff.rfl) k
theorem xor1:∀i:Nat,i<13→IntKind.i64.wrap ((BitVec.ofInt IntKind.i64.bits (i:Int) ^^^ BitVec.ofInt IntKind.i64.bits 1).toNat:Int)=if i % 2=1 then (i:Int)-1 else (i:Int)+1:=by decide +kernel
theorem xgK (k:List PV→Prop):∀(f:Nat) (leaf:Int) (i n:Nat) (path:List Int),n<f→n≤12→i<n∨n≤1→i≤12→path.length≤33554432 →
 (lp (fun L w=>Qiz_r0 w L (k [I 0,.bool false]) fun q24 q25 q26 q27 q28 q29=>xaH q27 fun r30=>xac .gtr r30 (I 0) fun r31=>xad r31 (k [I 0,.bool false]) (rt [.sc,.sc] [q24,.bool true] k)) [I leaf,I i,I n,ints path,I 0,.bool false]↔k (xiZ (sTF f leaf i n path)))
 | 0,_,_,_,_,h,_,_,_,_=>by omega
 | f+1,leaf,i,n,path,h,hn,hin,hi,hp=>by
  unfold sTF
  by_cases h1:1<n
  ·rw [if_pos h1]
   have hx:decide ((n:Int)≤if i % 2=1 then (i:Int)-1 else (i:Int)+1)=!decide (i % 2=1∨i+1<n):=by
    by_cases ho:i % 2=1
    ·rw [if_pos ho];simp [ho];omega
    ·rw [if_neg ho]
     by_cases hl:i+1<n
     ·simp [ho,hl];omega
     ·simp [ho,hl];omega
   by_cases hc:i % 2=1∨i+1<n
   ·rw [if_pos hc]
    match path with
    | [] =>
     refine xaI fun K=>?_
     simp only [Qiz_r0,un,cur0,xbJ,xgp,xor1 i (by omega),xcf,hx,hc,decide_true,Bool.not_true,Bool.false_eq_true,if_false,xaA,List.length_map,List.length_nil,xaG,xd4,xah,show decide ((1:Int)<n)=true by simp;omega,if_true]
     simp [xiZ]
    | p::r =>
     simp only
     refine (xbV fun K=>?_).trans (xgK k f (if i % 2=1 then xhP p leaf else xhP leaf p) (i / 2) ((n+1) / 2) r (by omega) (by omega) (by omega) (by omega) (by simp at hp;omega))
     simp only [Qiz_r0,un,cur0,xbJ,xgp,xor1 i (by omega),xcf,hx,hc,decide_true,Bool.not_true,Bool.false_eq_true,if_false,xaA,List.length_map,List.length_cons,xaG,xcB,xgq,xbd,xd4,tmod2,xqM,wsucc n (by omega),wdiv2 i (by omega),wdiv2 (n+1) (by omega),xah,show decide ((1:Int)<n)=true by simp;omega,if_true,show decide (((r.length+1:Nat):Int)=0)=false by simp;omega,ints,List.map_cons,xaj,show ((0:Int)).toNat=0 from rfl,List.getElem?_cons_zero,show (0:Int)≤0 by omega,true_and,xaf,xuB,xgE,xfS]
     by_cases ho:i % 2=1<;>simp [ho,List.take_of_length_le]
   ·rw [if_neg hc]
    refine (xbV fun K=>?_).trans (xgK k f leaf (i / 2) ((n+1) / 2) path (by omega) (by omega) (by omega) (by omega) hp)
    simp only [Qiz_r0,un,cur0,xbJ,xgp,xor1 i (by omega),xcf,hx,hc,decide_false,Bool.not_false,if_true,xaA,List.length_map,xgq,xbd,wsucc n (by omega),wdiv2 i (by omega),wdiv2 (n+1) (by omega),xah,show decide ((1:Int)<n)=true by simp;omega]
    simp
  ·rw [if_neg h1]
   refine xaI fun K=>?_
   simp only [Qiz_r0,un,cur0,xbJ,xaA,List.length_map,xah,show decide ((1:Int)<n)=false by simp;omega,Bool.false_eq_true,if_false,xaw,xao,xai,xas,xan,true_and,and_true]
   match path with
   | []=>simp [xiZ]
   | p::r=>simp [xiZ]
theorem xvM (leaf at_ count:Int) (path:List Int) (hp:path.length≤33554432) (k):call Qiz [.one (I leaf),.one (I at_),.one (I count),.one (ints path)] k=k (xiZ (xep leaf at_ count path)):=xaa (fun k=>by
 unfold xep
 by_cases c1:count<1
 ·have:inR count 1 12=false:=by unfold inR;simp;omega
  simp [Qiz,c1,this,xiZ]
 by_cases c2:12<count
 ·have:inR count 1 12=false:=by unfold inR;simp;omega
  simp [Qiz,c1,c2,this,xiZ]
 have h1:inR count 1 12=true:=by unfold inR;simp;omega
 have w:IntKind.i64.wrap (count-1)=count-1:=xbK (by omega) (by omega)
 cases h2:inR at_ 0 (count-1) with
 | false=>simp [Qiz,xdA,c1,c2,w,h2,xiZ]
 | true =>
  have b2:0≤at_∧at_≤count-1:=by unfold inR at h2;simpa using h2
  have e:=xgK k 13 leaf at_.toNat count.toNat path (by omega) (by omega) (by omega) (by omega) hp
  rw [show ((at_.toNat:Nat):Int)=at_ by omega,show ((count.toNat:Nat):Int)=count by omega] at e
  simp only [h1,Bool.and_self,if_true]
  rw [←e]
  simp only [Qiz,xdA,xaq,xbJ,h2,w,xbB,xba,xaf,xah,c1,c2,decide_false,Bool.not_true,Bool.false_eq_true,if_false,xaw,xao,xai,xas,xan,true_and]) k
def xaV:xat:=⟨⟨#[]⟩,0,0,[]⟩
def xeB:xcv:=⟨0,[]⟩
def xqi:xkI:=⟨0,xaV,xaV,xeB,xeB⟩
def xhN (e:xat) (p:xcv):Bool:=decide (e=xaV)&&decide (p=xeB)
def xa6 (root count:Int) (e:xat) (p:xcv):Bool:=xb7 e&&(match xep (xeb e) p.At count p.Path with | some t=>decide (xdB [231,count,t]=root) | none=>false)
theorem xut (root count:Int) (e:xat) (p:xcv) (h:xaz e≤33554432) (hp:xbo p≤33554432) (k):call Qja [.one (I root),.one (I count),.agg (xaD e),.agg (xcT p)] k=k [.bool (xa6 root count e p)]:=xaa (fun k=>by
 unfold xbo at hp
 have e1:=xuD e h
 have e2:=xuG e h
 have e3:=xvM (xeb e) p.At count p.Path hp
 have e1':∀k,call Qfy [.agg (xaD e)] k=k [I (xeb e)]:=e1
 unfold xa6
 cases ht:xep (xeb e) p.At count p.Path with
 | none =>
  rw [ht] at e3
  simp only [Qja,un,cur0,e1',e2,e3,xiZ,xaf,xbi,xah,xaw,xao,xai,xan,true_and]
  cases xb7 e<;>simp
 | some t =>
  rw [ht] at e3
  simp only [Qja,un,cur0,e1',e2,e3,xiZ,xaf,xbi,xuz,xaG,xd4,xah,xaw,xao,xai,xan,true_and]
  cases xb7 e<;>simp) k
theorem xtd (root count:Int) (e:xat) (p:xcv) (h:xaz e≤33554432) (hp:xbo p≤33554432) (k):call Qhx [.one (I root),.one (I count),.agg (xaD e),.agg (xcT p)] k=k [.bool (xa6 root count e p)]:=xaa (fun k=>by
 unfold xbo at hp
 have e1:=xuR e h
 have e2:=xuU e h
 have e3:=xv0 (xeb e) p.At count p.Path hp
 have e1':∀k,call Qcx [.agg (xaD e)] k=k [I (xeb e)]:=e1
 unfold xa6
 cases ht:xep (xeb e) p.At count p.Path with
 | none =>
  rw [ht] at e3
  simp only [Qhx,un,cur0,e1',e2,e3,xiZ,xaf,xbi,xah,xaw,xao,xai,xan,true_and]
  cases xb7 e<;>simp
 | some t =>
  rw [ht] at e3
  simp only [Qhx,un,cur0,e1',e2,e3,xiZ,xaf,xbi,xuN,xaG,xd4,xah,xaw,xao,xai,xan,true_and]
  cases xb7 e<;>simp) k
theorem mz:xaz xaV≤33554432∧xbo xeB≤33554432∧xg0 xqi≤33554432:=by decide
theorem xta (e:xat) (p:xcv) (h:xaz e≤33554432) (hp:xbo p≤33554432) (k):call Qic [.agg (xaD e),.agg (xcT p)] k=k [.bool (xhN e p)]:=xaa (fun k=>by
 have e1:=xtc e xaV h mz.1
 have e2:=xtb p xeB hp mz.2.1
 simp only [Qic,un,cur0]
 rw [show [PV.str ⟨#[]⟩,I 0,I 0,PV.list 1 []]=xaD xaV from rfl,show [I 0,PV.list 1 []]=xcT xeB from rfl]
 simp only [e1,e2,xaf,xah,xaw,xao,xai,xan,true_and]
 exact xcb fun _=>Iff.rfl) k
theorem xus (e:xat) (h:xaz e≤33554432) (k):call Qjf [.agg (xaD e)] k=k [.bool (decide (e=xaV))]:=xaa (fun k=>by
 have e1:=xs8 e xaV h mz.1
 simp only [Qjf,un,cur0]
 rw [show [PV.str ⟨#[]⟩,I 0,I 0,PV.list 1 []]=xaD xaV from rfl]
 simp only [e1,xaf,xaw,xao,xai,xan,true_and]) k
theorem xur (p:xcv) (hp:xbo p≤33554432) (k):call Qjg [.agg (xcT p)] k=k [.bool (decide (p=xeB))]:=xaa (fun k=>by
 have e1:=xs7 p xeB hp mz.2.1
 simp only [Qjg,un,cur0]
 rw [show [I 0,PV.list 1 []]=xcT xeB from rfl]
 simp only [e1,xaf,xaw,xao,xai,xan,true_and]) k
def xoL (root count:Int) (label:ByteArray) (g:xkI):Bool:=if decide (g.At=0)=true then xhN g.Before g.Left else xa6 root count g.Before g.Left&&(decide (g.Left.At=g.At-1)&&decide (xe2 g.Before.Label label=-1))
def xkV (root count:Int) (label:ByteArray) (g:xkI):Bool:=if decide (g.At=count)=true then xhN g.After g.Right else xa6 root count g.After g.Right&&(decide (g.Right.At=g.At)&&decide (xe2 g.After.Label label=1))
def xst (root count:Int) (label:ByteArray) (g:xkI):Bool:=xb2 label&&(inR g.At 0 count&&(!(decide (count=0)&&!decide (root=xiX []))&&(xoL root count label g&&xkV root count label g)))
theorem xrY {g:xkI} (h:xg0 g≤33554432):xaz g.Before≤33554432∧xaz g.After≤33554432∧xbo g.Left≤33554432∧xbo g.Right≤33554432:=by unfold xg0 at h;omega
theorem xvX (root count:Int) (label:ByteArray) (g:xkI) (hc:count≤12) (hl:label.size≤33554432) (h:xg0 g≤33554432) (k):call Qid [.one (I root),.one (I count),.one (.str label),.agg (xl6 g)] k=k [.bool (xst root count label g)]:=xaa (fun k=>by
 obtain ⟨g1,g2,g3,g4⟩:=xrY h
 have e1:=xqa label hl
 have e2:=xta g.Before g.Left g1 g3
 have e3:=xta g.After g.Right g2 g4
 have e4:=xtd root count g.Before g.Left g1 g3
 have e5:=xtd root count g.After g.Right g2 g4
 have e6:∀k,call Qdd [.one (.list 4 [])] k=k [I (xiX [])]:=xuM [] (by decide)
 unfold xst
 cases hb:xb2 label with
 | false=>simp [Qid,e1,hb]
 | true =>
  cases hr:inR g.At 0 count with
  | false=>simp [Qid,e1,hb,xeK,hr]
  | true =>
   have hr':0≤g.At∧g.At≤count:=by unfold inR at hr;simpa using hr
   have hup:(if decide (g.At=count)=true then k [.bool (xhN g.After g.Right)] else if xa6 root count g.After g.Right=true then if decide (g.Right.At=g.At)=true then k [.bool (decide (xe2 g.After.Label label=1))] else k [.bool false] else k [.bool false])↔k [.bool (xkV root count label g)]:=by
    unfold xkV
    cases decide (g.At=count)<;>cases xa6 root count g.After g.Right<;>cases decide (g.Right.At=g.At)<;>simp
   have hw3:IntKind.i64.wrap (g.At-1)=g.At-1:=xbK (by omega) (by omega)
   simp only [Qid,un,cur0,e1,hb,xeK,hr,e2,e3,e4,e5,e6,xrD,xba,xaG,xbS,xbB,bne,xd4,hw3,xaf,xah,xaw,xao,xai,xan,true_and,Bool.not_true,Bool.false_eq_true,if_false,show (0:Nat)≤16777216 by omega,Bool.true_and,propext hup]
   unfold xoL
   generalize xkV root count label g=u
   cases decide (count=0)<;>cases decide (root=xiX [])<;>cases decide (g.At=0)<;>cases xhN g.Before g.Left<;>cases xa6 root count g.Before g.Left<;>cases decide (g.Left.At=g.At-1)<;>cases decide (xe2 g.Before.Label label=-1)<;>simp) k
def sNb (root count:Int) (e:xat) (p:xcv) (at_:Int):Bool:=if inR at_ 0 (count-1)=true then xa6 root count e p&&decide (p.At=at_) else xhN e p
theorem xuq (root count:Int) (e:xat) (p:xcv) (at_:Int) (hc:0≤count∧count≤12) (h:xaz e≤33554432) (hp:xbo p≤33554432) (k):call Qjh [.one (I root),.one (I count),.agg (xaD e),.agg (xcT p),.one (I at_)] k=k [.bool (sNb root count e p at_)]:=xaa (fun k=>by
 have e1:=xut root count e p h hp
 have e2:=xus e h
 have e3:=xur p hp
 have w:IntKind.i64.wrap (count-1)=count-1:=xbK (by omega) (by omega)
 simp only [Qjh,un,cur0,e1,e2,e3,xbB,w,xdA,xba,xaG,xd4,xaf,xah,xaw,xao,xai,xan,true_and]
 unfold sNb xhN
 cases inR at_ 0 (count-1)<;>cases decide (e=xaV)<;>cases xa6 root count e p<;>simp) k
theorem xvJ (root count:Int) (label:ByteArray) (g:xkI) (hc:0≤count∧count≤12) (hl:label.size≤33554432) (h:xg0 g≤33554432) (k):call Qji [.one (I root),.one (I count),.one (.str label),.agg (xl6 g)] k=k [.bool (xst root count label g)]:=xaa (fun k=>by
 obtain ⟨g1,g2,g3,g4⟩:=xrY h
 have e1:=xp9 label hl
 have e4:=xuq root count g.Before g.Left (g.At-1) hc g1 g3
 have e5:=xuq root count g.After g.Right g.At hc g2 g4
 have e6:∀k,call Qgf [.one (.list 4 [])] k=k [I (xiX [])]:=xuy [] (by decide)
 unfold xst
 cases hb:xb2 label with
 | false=>simp [Qji,e1,hb]
 | true =>
  cases hr:inR g.At 0 count with
  | false=>simp [Qji,e1,hb,xdA,hr]
  | true =>
   have hr':0≤g.At∧g.At≤count:=by unfold inR at hr;simpa using hr
   have hw3:IntKind.i64.wrap (g.At-1)=g.At-1:=xbK (by omega) (by omega)
   have n1:inR (g.At-1) 0 (count-1)=!decide (g.At=0):=by
    unfold inR;by_cases h0:g.At=0
    ·simp [h0]
    ·simp [h0];omega
   have n2:inR g.At 0 (count-1)=!decide (g.At=count):=by
    unfold inR;by_cases h0:g.At=count
    ·simp [h0];try (intro _;omega)
    ·simp [h0];omega
   have c1:decide (xe2 g.Before.Label label<0)=decide (xe2 g.Before.Label label=-1):=by
    rcases xej g.Before.Label.data.toList label.data.toList with h | h | h<;>simp [xe2,h]
   have c2:decide (0<xe2 g.After.Label label)=decide (xe2 g.After.Label label=1):=by
    rcases xej g.After.Label.data.toList label.data.toList with h | h | h<;>simp [xe2,h]
   simp only [Qji,un,cur0,e1,hb,xdA,hr,e4,e5,e6,xry,xba,xaG,xbS,xbB,xaq,xbJ,bne,xd4,hw3,c1,c2,xaf,xah,xaw,xao,xai,xan,true_and,Bool.not_true,Bool.false_eq_true,if_false,Bool.true_and]
   unfold sNb xoL xkV
   rw [n1,n2]
   cases decide (count=0)<;>cases decide (root=xiX [])<;>cases decide (g.At=0)<;>cases decide (g.At=count)<;>cases xhN g.Before g.Left<;>cases xhN g.After g.Right<;>cases xa6 root count g.Before g.Left<;>cases xa6 root count g.After g.Right<;>cases decide (g.Left.At=g.At-1)<;>cases decide (g.Right.At=g.At)<;>cases decide (xe2 g.Before.Label label=-1)<;>simp) k
def xeO (p:xa9) (label:ByteArray) (a:xau):Bool:=if a.Found=true then (if decide (a.Entry.Label=label)=true then xa6 p.Root p.Count a.Entry a.Proof&&decide (a.Gap=xqi) else false) else xst p.Root p.Count label a.Gap&&xhN a.Entry a.Proof
theorem xbu {a:xau} (h:xaL a≤33554432):xar a.Chain≤33554432∧xaz a.Entry≤33554432∧xbo a.Proof≤33554432∧xg0 a.Gap≤33554432:=by unfold xaL at h;omega
def xkJ (zone:Int) (label:ByteArray) (a:xau) (now:Int):Int:=match xdq a.Chain with
 | none=>3
 | some p=>if decide (p.Zone=zone)=false then 2 else if inR now p.Time p.Until=false then 4 else if p.Frozen=true then 5 else if xeO p label a=false then 6 else 1
theorem xvN (p:xa9) (now:Int) (k):call Qiy [.agg (xbp p),.one (I now)] k=k [.bool (inR now p.Time p.Until)]:=xaa (fun k=>by
 simp only [Qiy,un,cur0,xdA,xaf,xaw,xao,xai,xan,true_and]) k
theorem xvI (p:xa9) (label:ByteArray) (a:xau) (hc:0≤p.Count∧p.Count≤12) (hl:label.size≤33554432) (h:xaL a≤33554432) (k):call Qjj [.agg (xbp p),.one (.str label),.agg (xax a)] k=k [.bool (xeO p label a)]:=xaa (fun k=>by
 obtain ⟨h1,h2,h3,h4⟩:=xbu h
 have e1:=xut p.Root p.Count a.Entry a.Proof h2 h3
 have e2:=xvK a.Gap xqi h4 mz.2.2
 have e3:=xvJ p.Root p.Count label a.Gap hc hl h4
 have e4:=xus a.Entry h2
 have e5:=xur a.Proof h3
 simp only [Qjj,un,cur0]
 rw [show [I 0,PV.str ⟨#[]⟩,I 0,I 0,PV.list 1 [],PV.str ⟨#[]⟩,I 0,I 0,PV.list 1 [],I 0,PV.list 1 [],I 0,PV.list 1 []]=xl6 xqi from rfl]
 simp only [e1,e2,e3,e4,e5,xiJ,xaf,xah,xaw,xao,xai,xan,true_and]
 unfold xeO xhN
 generalize decide (a.Entry.Label=label)=b1
 generalize xa6 p.Root p.Count a.Entry a.Proof=b2
 generalize xst p.Root p.Count label a.Gap=b3
 generalize decide (a.Entry=xaV)=b4
 cases a.Found<;>cases b1<;>cases b2<;>cases b3<;>cases b4<;>simp) k
theorem xup (zone:Int) (label:ByteArray) (a:xau) (now:Int) (hl:label.size≤33554432) (h:xaL a≤33554432) (k):call Qjk [.one (I zone),.one (.str label),.agg (xax a),.one (I now)] k=k [I (xkJ zone label a now)]:=xaa (fun k=>by
 obtain ⟨h1,h2,h3,h4⟩:=xbu h
 have e1:=xvO a.Chain h1
 unfold xkJ
 cases hs:xdq a.Chain with
 | none =>
  rw [hs] at e1
  simp only [Qjk,un,cur0,e1,xeg,xd6,xbp,List.cons_append,List.nil_append,xba,xaf,xbi,xah,xaw,xao,xai,xas,true_and,Bool.not_false,if_true]
 | some p =>
  rw [hs] at e1
  have e2:=xvN p now
  have e3:=xvI p label a (xif hs).1 hl h
  simp only [Qjk,un,cur0,e1,e2,e3,xeg,xbp,List.cons_append,List.nil_append,xba,xbS,bne,xd4,xaf,xbi,xah,xaw,xao,xai,xas,true_and,Bool.not_true,Bool.false_eq_true,if_false]
  cases decide (p.Zone=zone)<;>cases inR now p.Time p.Until<;>cases p.Frozen<;>cases xeO p label a<;>simp) k
theorem xv1 (p:xa9) (now:Int) (k):call Qhv [.agg (xbp p),.one (I now)] k=k [.bool (inR now p.Time p.Until)]:=xaa (fun k=>by
 simp only [Qhv,un,cur0,xeK,xaf,xaw,xao,xai,xan,true_and]) k
theorem xvW (p:xa9) (label:ByteArray) (a:xau) (hc:0≤p.Count∧p.Count≤12) (hl:label.size≤33554432) (h:xaL a≤33554432) (k):call Qie [.agg (xbp p),.one (.str label),.agg (xax a)] k=k [.bool (xeO p label a)]:=xaa (fun k=>by
 obtain ⟨h1,h2,h3,h4⟩:=xbu h
 have e1:=xtd p.Root p.Count a.Entry a.Proof h2 h3
 have e2:=xvY a.Gap xqi h4 mz.2.2
 have e3:=xvX p.Root p.Count label a.Gap hc.2 hl h4
 have e4:=xta a.Entry a.Proof h2 h3
 have e5:=e4
 simp only [Qie,un,cur0]
 rw [show [I 0,PV.str ⟨#[]⟩,I 0,I 0,PV.list 1 [],PV.str ⟨#[]⟩,I 0,I 0,PV.list 1 [],I 0,PV.list 1 [],I 0,PV.list 1 []]=xl6 xqi from rfl]
 simp only [e1,e2,e3,e4,e5,xiJ,xaf,xah,xaw,xao,xai,xan,true_and]
 unfold xeO
 generalize decide (a.Entry.Label=label)=b1
 generalize xa6 p.Root p.Count a.Entry a.Proof=b2
 generalize xst p.Root p.Count label a.Gap=b3
 generalize decide (a.Entry=xaV)=b4
 cases a.Found<;>cases b1<;>cases b2<;>cases b3<;>cases b4<;>simp) k
theorem xuu (zone:Int) (label:ByteArray) (a:xau) (now:Int) (hl:label.size≤33554432) (h:xaL a≤33554432) (k):call Qif [.one (I zone),.one (.str label),.agg (xax a),.one (I now)] k=k [I (xkJ zone label a now)]:=xaa (fun k=>by
 obtain ⟨h1,h2,h3,h4⟩:=xbu h
 have e1:=xrE a.Chain h1
 unfold xkJ
 cases hs:xdq a.Chain with
 | none =>
  rw [hs] at e1
  simp only [Qif,un,cur0,e1,xeg,xd6,xbp,List.cons_append,List.nil_append,xba,xaf,xbi,xah,xaw,xao,xai,xas,true_and,Bool.not_false,if_true]
 | some p =>
  rw [hs] at e1
  have e2:=xv1 p now
  have e3:=xvW p label a (xif hs).1 hl h
  simp only [Qif,un,cur0,e1,e2,e3,xeg,xbp,List.cons_append,List.nil_append,xba,xbS,bne,xd4,xaf,xbi,xah,xaw,xao,xai,xas,true_and,Bool.not_true,Bool.false_eq_true,if_false]
  cases decide (p.Zone=zone)<;>cases inR now p.Time p.Until<;>cases p.Frozen<;>cases xeO p label a<;>simp) k
def xhb:xag:=⟨xd6,[]⟩
theorem mzS:xav xhb≤33554432:=by decide
def xfF (f:xfb):Bool:=if decide (f.A.Head=f.B.Head)=true then false else if decide (f.Before=xhb)=true then xcQ f.A&&(xcQ f.B&&decide (f.A.Head.Zone=f.B.Head.Zone)) else xnP f.Before.Head f.A&&xnP f.Before.Head f.B
def fz (c:List xag):Int:=match c[0]? with | some s=>s.Head.Zone | none=>0
def xmu (z:Int) (c:List xag):Bool:=match c[0]? with | some s=>decide (s.Head.Zone=z) | none=>false
theorem xcn {c:List xag} (h:xaN c=true):∃s,c[0]? = some s:=by
 obtain ⟨_,_,h0⟩:=xe4 h
 exact ⟨c[0],List.getElem?_eq_getElem h0⟩
abbrev chains (l:List (List xag)):PV:=.list 1 (l.map (fun l:List xag=>[PV.list 17 (l.map xam)]))
theorem xte (a:xaS) (z:Int) (h:a.Chains.length≤33554432) (k):call Qhp [.agg (xcM a),.one (I z)] k=k [I (idx (xmu z) a.Chains)]:=xaa (fun k=>by
 simp only [Qhp,un,cur0]
 refine xdv (Q:=fun i=>k [I i]) a.Chains (fun i=>[I z,I 0,I i,chains a.Chains,.list 51 (a.Forks.map xbR)]) (xmu z) rfl (fun i x hx hi K=>?_) fun K=>?_
 ·unfold xmu
  cases h0:x[0]? with
  | none =>
   have h1:x=[]:=by cases x with | nil=>rfl | cons s t=>cases h0
   subst h1
   simp [-getElem?_pos,Qhp_r0,hx,hi,xal (show i<1000000000000000000 by omega)]
  | some s =>
   have h1:=xaK h0
   simp [-getElem?_pos,Qhp_r0,hx,hi,h0,xal (show i<1000000000000000000 by omega),show (0:Int)<(x.length:Int) by omega,h1]
 ·simp [Qhp_r0]) k
theorem xki (c:List xag) (z:Int) (k):call Qjl [.one (.list 17 (c.map xam)),.ro (.cells [I z])] k=k [.bool (xmu z c)]:=xaa (fun k=>by
 unfold xmu
 cases h0:c[0]? with
 | none =>
  have h1:c=[]:=by cases c with | nil=>rfl | cons s t=>cases h0
  subst h1
  simp [-getElem?_pos,Qjl]
 | some s =>
  have h1:=xaK h0
  simp [-getElem?_pos,Qjl,h0,xd4,show (0:Int)<(c.length:Int) by omega,h1]) k
theorem xfL (a:xaS) (z:Int) (h:a.Chains.length≤33554432) (k):call Qjn [.agg (xcM a),.one (I z)] k=k [I (idx (xmu z) a.Chains)]:=xaa (fun k=>by
 have e:∀k,call Qjm [.one (chains a.Chains),.fn 387 [.cells [I z]]] k=k [I (idx (xmu z) a.Chains)]:=xaa (fun k=>by
  simp [Qjm]
  refine xdv (Q:=fun i=>k [I i]) a.Chains (fun i=>[chains a.Chains,I z,I 0,I a.Chains.length,I i]) (xmu z) rfl (fun i x hx hi K=>?_) fun K=>?_
  ·simp [-getElem?_pos,Qjm_r0,hx,hi,xki x z,xal (show i<1000000000000000000 by omega)]
  ·simp [Qjm_r0])
 simp only [Qjn,un,cur0,e,xaf,xaw,xao,xai,xas,true_and]) k
def isS (z:Int) (n:ByteArray) (s:xce):Bool:=decide (s.Zone=z)&&decide (s.Label=n)
theorem xuo (a:xbH) (z:Int) (n:ByteArray) (h:a.Lst.length≤33554432) (k):call Qkc [.agg (xbY a),.one (I z),.one (.str n)] k=k [I (idx (isS z n) a.Lst)]:=xaa (fun k=>by
 simp only [Qkc,un,cur0]
 refine xdv (Q:=fun i=>k [I i]) a.Lst (fun i=>[I z,.str n,I 0,I i,.list 23 (a.Lst.map xbz)]) (isS z n) rfl (fun i x hx hi K=>?_) fun K=>?_
 ·unfold isS
  simp [-getElem?_pos,Qkc_r0,hx,hi,xal (show i<1000000000000000000 by omega)]
  by_cases h1:x.Zone=z<;>by_cases h2:x.Label=n<;>simp [h1,h2]
 ·simp [Qkc_r0]) k
theorem xi1 (s:xce) (z:Int) (n:ByteArray) (k):call Qkj [.agg (xbz s),.ro (.cells [I z]),.ro (.cells [.str n])] k=k [.bool (isS z n s)]:=xaa (fun k=>by
 unfold isS
 simp only [Qkj,un,cur0,xaG,xd4,xiJ,xah,xaw,xao,xai,xan,true_and]
 exact xcb fun _=>Iff.rfl) k
theorem xg1 (a:xbH) (z:Int) (n:ByteArray) (h:a.Lst.length≤33554432) (k):call Qkl [.agg (xbY a),.one (I z),.one (.str n)] k=k [I (idx (isS z n) a.Lst)]:=xaa (fun k=>by
 have e:∀k,call Qkk [.one (.list 23 (a.Lst.map xbz)),.fn 285 [.cells [I z],.cells [.str n]]] k=k [I (idx (isS z n) a.Lst)]:=xaa (fun k=>by
  simp [Qkk]
  refine xdv (Q:=fun i=>k [I i]) a.Lst (fun i=>[.list 23 (a.Lst.map xbz),I z,.str n,I 0,I a.Lst.length,I i]) (isS z n) rfl (fun i x hx hi K=>?_) fun K=>?_
  ·simp [-getElem?_pos,Qkk_r0,hx,hi,xi1 x z n,xal (show i<1000000000000000000 by omega)]
  ·simp [Qkk_r0])
 simp only [Qkl,un,cur0,e,xaf,xaw,xao,xai,xas,true_and]) k
theorem xrv (l m:List xag) (h:xar l≤33554432) (h':xar m≤33554432) (k):call Qhr [.one (.list 17 (l.map xam)),.one (.list 17 (m.map xam))] k=k [.bool (xiS l m)]:=xaa (fun k=>by
 have hl0:=xne h
 have hm0:=xne h'
 unfold xiS
 by_cases hl:l.length≤m.length
 ·simp only [hl,decide_true,Bool.true_and]
  simp [Qhr,show ¬(m.length:Int)<l.length by omega]
  refine (xhr k false l (fun i=>[.list 17 (l.map xam),.list 17 (m.map xam),.bool false,I i]) (xsw m) rfl (fun i x hx hi K=>?_) fun K=>?_).trans (by simp)
  ·obtain ⟨y,hy⟩:∃y,m[i]? = some y:=⟨m[i],List.getElem?_eq_getElem (by omega)⟩
   have e:=xrw x.Head y.Head (xhq h (xbb hx)) (xhq h' (xbb hy))
   simp [-getElem?_pos,Qhr_r0,hx,hy,hi,e,xsw,xal (show i<1000000000000000000 by omega)]
   all_goals (by_cases hxy:x.Head=y.Head<;>simp [hxy])
  ·simp [Qhr_r0]
 ·simp [Qhr,hl,show (m.length:Int)<l.length by omega]) k
theorem xrs (l m:List xag) (h:xar l≤33554432) (h':xar m≤33554432) (k):call Qjp [.one (.list 17 (l.map xam)),.one (.list 17 (m.map xam))] k=k [.bool (xiS l m)]:=xaa (fun k=>by
 have hl0:=xne h
 have hm0:=xne h'
 unfold xiS
 by_cases hl:l.length≤m.length
 ·simp only [hl,decide_true,Bool.true_and]
  simp [Qjp,show ¬(m.length:Int)<l.length by omega]
  refine (xhr k false l (fun i=>[.list 17 (m.map xam),.bool false,.list 17 (l.map xam),I l.length,I i]) (xsw m) rfl (fun i x hx hi K=>?_) fun K=>?_).trans (by simp)
  ·obtain ⟨y,hy⟩:∃y,m[i]? = some y:=⟨m[i],List.getElem?_eq_getElem (by omega)⟩
   have e:=xrt x.Head y.Head (xhq h (xbb hx)) (xhq h' (xbb hy))
   simp [-getElem?_pos,Qjp_r0,hx,hy,hi,e,xsw,xal (show i<1000000000000000000 by omega)]
   all_goals (by_cases hxy:x.Head=y.Head<;>simp [hxy])
  ·simp [Qjp_r0]
 ·simp [Qjp,hl,show (m.length:Int)<l.length by omega]) k
def xhz:xfb:=⟨xhb,xhb,xhb⟩
def fdiff:Nat→List (xag×xag)→Option (Nat×xag×xag)
 | _,[]=>none
 | i,(x,y)::l=>if x.Head=y.Head then fdiff (i+1) l else some (i,x,y)
theorem xfQ (P:Nat→xag×xag→Prop):∀(i:Nat) (l:List (xag×xag)),xfp (fun _ q=>!decide (q.1.Head=q.2.Head)) P False i l=match fdiff i l with | some (d,x,y)=>P d (x,y) | none=>False
 | _,[]=>rfl
 | i,(x,y)::l=>by
  rw [xfp,fdiff,xfQ P (i+1) l]
  by_cases h:x.Head=y.Head<;>simp [h]
theorem xjM:∀(i:Nat) (l:List (xag×xag)),fdiff i l=none→∀q∈l,q.1.Head=q.2.Head
 | _,[],_,q,hq=>by cases hq
 | i,(x,y)::l,h,q,hq=>by
  rw [fdiff] at h
  split at h
  ·rename_i hxy
   rcases List.mem_cons.1 hq with rfl | hq
   ·exact hxy
   ·exact xjM (i+1) l h q hq
  ·cases h
theorem xlT {α:Type} (p:Nat→α→Bool):∀(i:Nat) (l:List α),(∀j x,l[j]? = some x→p (i+j) x=false)→xe7 p i l=false
 | _,[],_=>rfl
 | i,x::l,h=>by
  have h0:=h 0 x rfl
  rw [Nat.add_zero] at h0
  rw [xe7,h0,Bool.false_or]
  exact xlT p (i+1) l fun j y hy=>by
   have:=h (j+1) y (by simpa using hy)
   rwa [show i+(j+1)=i+1+j by omega] at this
theorem xot {l m:List xag} {i:Nat} {x y:xag} (hx:l[i]? = some x) (hy:m[i]? = some y):(x,y)∈l.zip m:=by
 apply List.mem_of_getElem? (i:=i)
 rw [List.getElem?_zip_eq_some]
 exact ⟨hx,hy⟩
theorem xhX {l m:List xag} (h:∀q∈l.zip m,q.1.Head=q.2.Head) (hl:l.length≤m.length):xiS l m=true:=by
 unfold xiS
 have:xe7 (xsw m) 0 l=false:=xlT _ 0 l fun j x hx=>by
  have hj:=xaK hx
  have hy:m[j]? = some m[j]:=List.getElem?_eq_getElem (by omega)
  have:=h _ (xot hx hy)
  rw [Nat.zero_add]
  unfold xsw
  rw [hy]
  simp only [Bool.not_eq_false',decide_eq_true_eq]
  exact this
 rw [this]
 simp [hl]
theorem xjL {l m:List xag} (h1:xiS l m=false) (h2:xiS m l=false):∃d x y,fdiff 0 (l.zip m)=some (d,x,y):=by
 cases h:fdiff 0 (l.zip m) with
 | some q=>exact ⟨q.1,q.2.1,q.2.2,rfl⟩
 | none =>
  have h3:=xjM 0 _ h
  rcases Nat.le_total l.length m.length with h4 | h4
  ·rw [xhX h3 h4] at h1;cases h1
  ·rw [xhX (l:=m) (m:=l) (fun q hq=>by
    obtain ⟨i,hi⟩:=List.mem_iff_getElem?.1 hq
    rw [List.getElem?_zip_eq_some] at hi
    exact (h3 _ (xot hi.2 hi.1)).symm) h4] at h2
   cases h2
def xrg (l:List xag) (d:Nat):xag:=if d=0 then xhb else match l[d-1]? with | some z=>z | none=>xhb
def xeq (l m:List xag):Option xfb:=if xaN l=true then (if xaN m=true then
 (match l[0]?,m[0]? with
  | some x,some y=>if decide (x.Head.Zone=y.Head.Zone)=true then (if xiS l m=true then none else if xiS m l=true then none else
   match fdiff 0 (l.zip m) with | some (d,x,y)=>some ⟨xrg l d,x,y⟩ | none=>none) else none
  | _,_=>none) else none) else none
def xc2:Option xfb→List PV
 | some f=>xbR f++[.bool true]
 | none=>xbR xhz++[.bool false]
theorem xvH (l m:List xag) (h:xar l≤33554432) (h':xar m≤33554432) (k):call Qjr [.one (.list 17 (l.map xam)),.one (.list 17 (m.map xam))] k=k (xc2 (xeq l m)):=xaa (fun k=>by
 have e1:=xol l h
 have e2:=xol m h'
 have e3:=xrs l m h h'
 have e4:=xrs m l h' h
 have hl:=(xbP h).2
 have hm:=(xbP h').2
 have hll:=(xbP h).1
 have hlm:=(xbP h').1
 unfold xeq
 cases c1:xaN l with
 | false=>simp [Qjr,e1,c1,xc2,xhz,xhb,xd6,ints]
 | true =>
 cases c2:xaN m with
 | false=>simp [Qjr,e1,e2,c1,c2,xc2,xhz,xhb,xd6,ints]
 | true =>
 obtain ⟨x0,hx0⟩:=xcn c1
 obtain ⟨y0,hy0⟩:=xcn c2
 rw [hx0,hy0]
 by_cases c3:x0.Head.Zone=y0.Head.Zone
 rotate_left
 ·simp [-getElem?_pos,Qjr,e1,e2,c1,c2,hx0,hy0,c3,xc2,xhz,xhb,xd6,ints]
 cases c4:xiS l m with
 | true=>simp [-getElem?_pos,Qjr,e1,e2,e3,c1,c2,hx0,hy0,c3,c4,xc2,xhz,xhb,xd6,ints]
 | false =>
 cases c5:xiS m l with
 | true=>simp [-getElem?_pos,Qjr,e1,e2,e3,e4,c1,c2,hx0,hy0,c3,c4,c5,xc2,xhz,xhb,xd6,ints]
 | false =>
 obtain ⟨d,x,y,hd⟩:=xjL c4 c5
 simp only [Qjr,e1,e2,e3,e4,c1,c2,c4,c5,xlF,Int.toNat_zero,hx0,hy0,xo7,xaf,xbi,xba,xbS,bne,xd4,c3,decide_true,Bool.not_true,Bool.false_eq_true,if_false,if_true,xah,Int.le_refl,show (0:Int)≤0 by omega,true_and]
 have key:=xfQ (fun d q=>k (xc2 (some ⟨xrg l d,q.1,q.2⟩))) 0 (l.zip m)
 rw [hd] at key
 simp only at key
 rw [hd]
 refine Iff.trans ?_ (Iff.of_eq key)
 refine xh7 (l.zip m) (fun i=>[.list 17 (l.map xam),.list 17 (m.map xam),.bool false,I i,(I 0),(I 0),(I 0),(I 0),(I 0),(I 0),(I 0),(I 0),(I 0),(I 0),(I 0),(I 0),(.bool false),(I 0),(I 0),(I 0),(I 0),(I 0),(I 0),(I 0),(I 0),(I 0),(I 0),(I 0),(I 0),(.bool false),(I 0),(I 0),(I 0),(I 0),(I 0),(I 0),(I 0),(I 0),(I 0),(I 0),(I 0),(I 0),(.bool false),(.list 2 []),(.list 1 []),(.list 1 []),(.list 1 []),(.list 2 []),(.list 1 []),(.list 1 []),(.list 1 []),(.list 2 []),(.list 1 []),(.list 1 []),(.list 1 [])]) (fun _ q=>!decide (q.1.Head=q.2.Head)) (fun d q=>k (xc2 (some ⟨xrg l d,q.1,q.2⟩))) rfl (fun i q hq K=>?_) fun K=>?_
 ·obtain ⟨x,y⟩:=q
  obtain ⟨hx,hy⟩:=List.getElem?_zip_eq_some.1 hq
  have q1:=xrt x.Head y.Head (xa5 (hl x (xbb hx))).1 (xa5 (hm y (xbb hy))).1
  have q2:=xmO x (hl x (xbb hx))
  have q3:=xmO y (hm y (xbb hy))
  have hil:=xaK hx
  have him:=xaK hy
  by_cases hxy:x.Head=y.Head
  ·have hxy':decide (x.Head=y.Head)=true:=by simp [hxy]
   rw [hxy'] at q1
   simp [-getElem?_pos,Qjr_r0,hx,hy,q1,hxy',hil,him,xal (show i<1000000000000000000 by omega)]
  ·have hxy':decide (x.Head=y.Head)=false:=by simp [hxy]
   rw [hxy'] at q1
   unfold xrg
   by_cases h0:i=0
   ·subst h0
    simp [-getElem?_pos,Qjr_r0,hx,hy,q1,q2,q3,hxy',hil,him,xc2,xhb,xd6,ints]
   ·obtain ⟨z,hz⟩:∃z,l[i-1]? = some z:=⟨l[i-1],List.getElem?_eq_getElem (by omega)⟩
    have q4:=xmO z (hl z (xbb hz))
    simp [-getElem?_pos,Qjr_r0,hx,hy,hz,q1,q2,q3,q4,hxy',hil,him,xc2,h0,show (0:Int)<(i:Int) by omega,show 0<i by omega,xdm (show 0<i by omega) (show i<1000000000000000000 by omega)]
 ·have:(l.zip m)[(l.zip m).length]? = none:=by simp
  have hq:l[(l.zip m).length]? = none∨m[(l.zip m).length]? = none:=by
   simp only [List.length_zip,List.getElem?_eq_none_iff];omega
  generalize (l.zip m).length=n at hq
  cases hx:l[n]? with
  | none=>simp [-getElem?_pos,Qjr_r0,hx]
  | some x =>
   have hy:m[n]? = none:=by rcases hq with h | h;(rw [hx] at h;cases h);exact h
   simp [-getElem?_pos,Qjr_r0,hx,hy]) k
theorem xv2 (l m:List xag) (h:xar l≤33554432) (h':xar m≤33554432) (k):call Qht [.one (.list 17 (l.map xam)),.one (.list 17 (m.map xam))] k=k (xc2 (xeq l m)):=xaa (fun k=>by
 have e1:=xrF l h
 have e2:=xrF m h'
 have e3:=xrv l m h h'
 have e4:=xrv m l h' h
 have hl:=(xbP h).2
 have hm:=(xbP h').2
 have hll:=(xbP h).1
 have hlm:=(xbP h').1
 unfold xeq
 cases c1:xaN l with
 | false=>simp [Qht,e1,c1,xc2,xhz,xhb,xd6,ints]
 | true =>
 cases c2:xaN m with
 | false=>simp [Qht,e1,e2,c1,c2,xc2,xhz,xhb,xd6,ints]
 | true =>
 obtain ⟨x0,hx0⟩:=xcn c1
 obtain ⟨y0,hy0⟩:=xcn c2
 rw [hx0,hy0]
 by_cases c3:x0.Head.Zone=y0.Head.Zone
 rotate_left
 ·simp [-getElem?_pos,Qht,e1,e2,c1,c2,hx0,hy0,c3,xc2,xhz,xhb,xd6,ints]
 cases c4:xiS l m with
 | true=>simp [-getElem?_pos,Qht,e1,e2,e3,c1,c2,hx0,hy0,c3,c4,xc2,xhz,xhb,xd6,ints]
 | false =>
 cases c5:xiS m l with
 | true=>simp [-getElem?_pos,Qht,e1,e2,e3,e4,c1,c2,hx0,hy0,c3,c4,c5,xc2,xhz,xhb,xd6,ints]
 | false =>
 obtain ⟨d,x,y,hd⟩:=xjL c4 c5
 simp only [Qht,e1,e2,e3,e4,c1,c2,c4,c5,xlF,Int.toNat_zero,hx0,hy0,xo7,xaf,xbi,xba,xbS,bne,xd4,c3,decide_true,Bool.not_true,Bool.false_eq_true,if_false,if_true,xah,Int.le_refl,show (0:Int)≤0 by omega,true_and]
 have key:=xfQ (fun d q=>k (xc2 (some ⟨xrg l d,q.1,q.2⟩))) 0 (l.zip m)
 rw [hd] at key
 simp only at key
 rw [hd]
 refine Iff.trans ?_ (Iff.of_eq key)
 refine xh7 (l.zip m) (fun i=>[.list 17 (l.map xam),.list 17 (m.map xam),.bool false,I i,(I 0),(I 0),(I 0),(I 0),(I 0),(I 0),(I 0),(I 0),(I 0),(I 0),(I 0),(I 0),(.bool false),(I 0),(I 0),(I 0),(I 0),(I 0),(I 0),(I 0),(I 0),(I 0),(I 0),(I 0),(I 0),(.bool false),(I 0),(I 0),(I 0),(I 0),(I 0),(I 0),(I 0),(I 0),(I 0),(I 0),(I 0),(I 0),(.bool false),(.list 2 []),(.list 1 []),(.list 1 []),(.list 1 []),(.list 2 []),(.list 1 []),(.list 1 []),(.list 1 []),(.list 2 []),(.list 1 []),(.list 1 []),(.list 1 [])]) (fun _ q=>!decide (q.1.Head=q.2.Head)) (fun d q=>k (xc2 (some ⟨xrg l d,q.1,q.2⟩))) rfl (fun i q hq K=>?_) fun K=>?_
 ·obtain ⟨x,y⟩:=q
  obtain ⟨hx,hy⟩:=List.getElem?_zip_eq_some.1 hq
  have q1:=xrw x.Head y.Head (xa5 (hl x (xbb hx))).1 (xa5 (hm y (xbb hy))).1
  have q2:=xl3 x (hl x (xbb hx))
  have q3:=xl3 y (hm y (xbb hy))
  have hil:=xaK hx
  have him:=xaK hy
  by_cases hxy:x.Head=y.Head
  ·have hxy':decide (x.Head=y.Head)=true:=by simp [hxy]
   rw [hxy'] at q1
   simp [-getElem?_pos,Qht_r0,hx,hy,q1,hxy',hil,him,xal (show i<1000000000000000000 by omega)]
  ·have hxy':decide (x.Head=y.Head)=false:=by simp [hxy]
   rw [hxy'] at q1
   unfold xrg
   by_cases h0:i=0
   ·subst h0
    simp [-getElem?_pos,Qht_r0,hx,hy,q1,q2,q3,hxy',hil,him,xc2,xhb,xd6,ints]
   ·obtain ⟨z,hz⟩:∃z,l[i-1]? = some z:=⟨l[i-1],List.getElem?_eq_getElem (by omega)⟩
    have q4:=xl3 z (hl z (xbb hz))
    simp [-getElem?_pos,Qht_r0,hx,hy,hz,q1,q2,q3,q4,hxy',hil,him,xc2,h0,show (0:Int)<(i:Int) by omega,show 0<i by omega,xdm (show 0<i by omega) (show i<1000000000000000000 by omega)]
 ·have hq:l[(l.zip m).length]? = none∨m[(l.zip m).length]? = none:=by
   simp only [List.length_zip,List.getElem?_eq_none_iff];omega
  generalize (l.zip m).length=n at hq
  cases hx:l[n]? with
  | none =>
   have hn:¬(n:Int)<(l.length:Int):=by have:=List.getElem?_eq_none_iff.1 hx;omega
   simp [-getElem?_pos,Qht_r0,hx,show ¬n<l.length by omega]
  | some x =>
   have hy:m[n]? = none:=by rcases hq with h | h;(rw [hx] at h;cases h);exact h
   have h1:=xaK hx
   have hn:¬(n:Int)<(m.length:Int):=by have:=List.getElem?_eq_none_iff.1 hy;omega
   have c:=xl3 x (hl x (xbb hx))
   simp [-getElem?_pos,Qht_r0,hx,hy,h1,show ¬n<m.length by omega,c]) k
theorem xoK {p:xa9} {s:xag} (h:xnP p s=true):s.Head.Zone=p.Zone:=by
 unfold xnP xoN at h
 simp only [decide_eq_true_eq] at h
 by_cases h1:xcD p=true
 rotate_left
 ·rw [if_neg h1] at h;exact absurd h (by decide)
 rw [if_pos h1] at h
 by_cases h2:xcD s.Head=true
 rotate_left
 ·rw [if_neg h2] at h;exact absurd h (by decide)
 rw [if_pos h2] at h
 by_cases h3:xqw p s.Head=true
 ·unfold xqw at h3
  simp only [Bool.and_eq_true,decide_eq_true_eq] at h3
  exact h3.1
 ·rw [if_neg h3] at h;exact absurd h (by decide)
theorem xnm {α:Type} {p:Nat→α→Bool}:∀{l:List α} {n:Nat},xkq p n l<0→∀i x,l[i]? = some x→p (n+i) x=false
 | [],n,h,i,x,hx=>by cases hx
 | y::l,n,h,i,x,hx=>by
  rw [xkq] at h
  by_cases hp:p n y=true
  ·rw [if_pos hp] at h;omega
  ·rw [if_neg hp] at h
   cases i with
   | zero=>cases hx;simpa using hp
   | succ i=>rw [show n+(i+1)=n+1+i by omega];exact xnm h i x hx
theorem xoc {l:List xag} (h:xaN l=true):∀(i:Nat) (x:xag),l[i]? = some x→x.Head.Zone=fz l:=by
 unfold xaN sFW at h
 simp only [Bool.and_eq_true,decide_eq_true_eq] at h
 have hw:=xnm h.2
 intro i
 induction i with
 | zero=>intro x hx;simp [fz,hx]
 | succ i ih =>
  intro x hx
  have h1:=hw (i+1) x hx
  have hl:=xaK hx
  obtain ⟨y,hy⟩:∃y,l[i]? = some y:=⟨l[i],List.getElem?_eq_getElem (by omega)⟩
  simp only [xfq,Nat.zero_add,show ¬(i+1=0) by omega,if_false,Nat.add_sub_cancel,hy,Bool.not_eq_false'] at h1
  rw [xoK h1]
  exact ih y hy
theorem xpm {l:List xag} {p:xa9} (h:xdq l=some p):xaN l=true∧p.Zone=fz l:=by
 unfold xdq at h
 by_cases hc:xaN l=true
 ·rw [if_pos hc] at h
  obtain ⟨x,hx,_⟩:=xe4 hc
  rw [hx] at h
  cases h
  exact ⟨hc,xoc hc _ x hx⟩
 ·rw [if_neg hc] at h;cases h
def FB (f:xfb):Prop:=xav f.Before≤33554432∧xav f.A≤33554432∧xav f.B≤33554432
def KB (a:xaS):Prop:=a.Chains.length≤33554432∧(∀c∈a.Chains,xar c≤33554432)∧a.Forks.length≤33554432∧∀f∈a.Forks,FB f
def SB (s:xce):Prop:=s.Label.size≤33554432∧xaL s.Answer≤33554432
def CB (c:xbH):Prop:=c.Lst.length≤33554432∧∀s∈c.Lst,SB s
def kI (k:xaS) (c:List xag):Int:=idx (xmu (fz c)) k.Chains
def kC (k:xaS) (c:List xag):List xag:=k.Chains.getD (kI k c).toNat []
def xc8 (k:xaS) (c:List xag):Int :=
 if xaN c=true then (if decide (kI k c<0)=true then 1 else
  if (xiS (kC k c) c&&xiS c (kC k c))=true then 2 else if xiS (kC k c) c=true then 3 else if xiS c (kC k c)=true then 4 else 5) else 6
def xdp (k:xaS) (c:List xag):xaS×Int :=
 if xc8 k c=1 then (if (8:Int)≤k.Chains.length then (k,6) else (⟨k.Chains++[c],k.Forks⟩,1))
 else if xc8 k c=3 then (⟨k.Chains.set (kI k c).toNat c,k.Forks⟩,3)
 else if xc8 k c=5 then (match xeq (kC k c) c with | some f=>if (k.Forks.length:Int)<8 then (⟨k.Chains,k.Forks++[f]⟩,5) else (k,5) | none=>(k,5))
 else (k,xc8 k c)
def sFZ (f:xfb):Int:=if xfF f=true then f.A.Head.Zone else -1
def xdW (k:xaS) (z:Int):Bool:=decide (0≤z)&&k.Forks.any (fun f=>decide (sFZ f=z))
def xoo (k:xaS) (a:xau) (z:Int):xaS×Int:=if (xaN a.Chain&&decide (fz a.Chain=z))=true then xdp k a.Chain else (k,6)
def xm2 (k:xaS) (a:xau) (z:Int) (s:ByteArray) (now:Int):Int :=
 if (decide (xkJ z s a now=1)&&!(inR (xoo k a z).2 1 3&&!xdW (xoo k a z).1 z))=true then 3 else xkJ z s a now
theorem xlC {l m:List xag} {d:Nat} {x y:xag}:∀{i:Nat} {z:List (xag×xag)},fdiff i z=some (d,x,y)→(x,y)∈z
 | _,[],h=>by cases h
 | i,(a,b)::z,h=>by
  rw [fdiff] at h
  split at h
  ·exact List.mem_cons_of_mem _ (xlC (l:=l) (m:=m) h)
  ·cases h;exact List.mem_cons_self
theorem xsF {l m:List xag} {f:xfb} (hl:xar l≤33554432) (hm:xar m≤33554432) (h:xeq l m=some f):FB f:=by
 unfold xeq at h
 split at h
 rotate_left
 ·cases h
 split at h
 rotate_left
 ·cases h
 split at h
 rotate_left
 ·cases h
 split at h
 rotate_left
 ·cases h
 split at h
 ·cases h
 split at h
 ·cases h
 split at h
 rotate_left
 ·cases h
 rename_i d x y hd
 cases h
 have hz:=xlC (l:=l) (m:=m) hd
 have hx:=(List.of_mem_zip hz).1
 have hy:=(List.of_mem_zip hz).2
 refine ⟨?_,(xbP hl).2 _ hx,(xbP hm).2 _ hy⟩
 show xav (xrg l d)≤33554432
 unfold xrg
 split
 ·exact mzS
 ·split
  ·rename_i z hz;exact (xbP hl).2 _ (List.mem_of_getElem? hz)
  ·exact mzS
theorem xtJ {k:xaS} {c:List xag}:1≤xc8 k c∧xc8 k c≤6:=by
 unfold xc8
 repeat' split
 all_goals omega
theorem xkH {k:xaS} {c:List xag} (hk:KB k) (hc:xar c≤33554432):KB (xdp k c).1:=by
 obtain ⟨h1,h2,h3,h4⟩:=hk
 unfold xdp
 split
 ·split
  ·exact ⟨h1,h2,h3,h4⟩
  ·refine ⟨by simp;omega,fun x hx=>?_,h3,h4⟩
   rcases List.mem_append.1 hx with hx | hx
   ·exact h2 x hx
   ·rw [List.mem_singleton.1 hx];exact hc
 split
 ·refine ⟨by simpa using h1,fun x hx=>?_,h3,h4⟩
  rcases List.mem_or_eq_of_mem_set hx with hx | hx
  ·exact h2 x hx
  ·rw [hx];exact hc
 split
 ·split
  ·rename_i f hf
   split
   ·refine ⟨h1,h2,by simp;omega,fun x hx=>?_⟩
    rcases List.mem_append.1 hx with hx | hx
    ·exact h4 x hx
    ·rw [List.mem_singleton.1 hx]
     refine xsF ?_ hc hf
     unfold kC
     rw [List.getD_eq_getElem?_getD]
     cases hq:k.Chains[(kI k c).toNat]? with
     | none=>simp [xar,xbl]
     | some q=>exact h2 q (List.mem_of_getElem? hq)
   ·exact ⟨h1,h2,h3,h4⟩
  ·exact ⟨h1,h2,h3,h4⟩
 ·exact ⟨h1,h2,h3,h4⟩
theorem xsa {k:xaS} {a:xau} {z:Int} (hk:KB k) (ha:xaL a≤33554432):KB (xoo k a z).1:=by
 unfold xoo
 split
 ·exact xkH hk (xbu ha).1
 ·exact hk
def xea (z:Int) (s:ByteArray) (now:Int):xaS→List Int→Nat→List xau→xaS×List Int×Option (Nat×xau)
 | k,cs,_,[]=>(k,cs,none)
 | k,cs,i,a::r=>if xm2 k a z s now=1 then ((xoo k a z).1,cs++[xm2 k a z s now],some (i,a)) else xea z s now (xoo k a z).1 (cs++[xm2 k a z s now]) (i+1) r
theorem xph {z:Int} {s:ByteArray} {now:Int}:∀{l:List xau} {k:xaS} {cs:List Int} {i:Nat},KB k→(∀a∈l,xaL a≤33554432)→KB (xea z s now k cs i l).1
 | [],k,cs,i,hk,_=>hk
 | a::r,k,cs,i,hk,hl=>by
  rw [xea]
  have h1:=xsa (z:=z) hk (hl a List.mem_cons_self)
  split
  ·exact h1
  ·exact xph h1 fun x hx=>hl x (List.mem_cons_of_mem _ hx)
theorem xh8 {z:Int} {s:ByteArray} {now:Int}:∀{l:List xau} {k:xaS} {cs:List Int} {i j:Nat} {a:xau},(xea z s now k cs i l).2.2=some (j,a)→i≤j∧l[j-i]? = some a∧(xea z s now k cs i l).2.1.length=cs.length+(j-i)+1
 | [],k,cs,i,j,a,h=>by cases h
 | b::r,k,cs,i,j,a,h=>by
  rw [xea] at h ⊢
  split at h
  ·rename_i hc
   rw [if_pos hc]
   cases h
   simp
  ·rename_i hc
   rw [if_neg hc]
   obtain ⟨h1,h2,h3⟩:=xh8 h
   refine ⟨by omega,?_,?_⟩
   ·rw [show j-i=(j-(i+1))+1 by omega,List.getElem?_cons_succ];exact h2
   ·rw [h3];simp;omega
def xnI:xau:=⟨[],false,xaV,xeB,xqi⟩
def xdV (c:xbH) (z:Int) (s:ByteArray):xau:=match c.Lst[(idx (isS z s) c.Lst).toNat]? with
 | some x=>if decide (idx (isS z s) c.Lst<0)=true then xnI else x.Answer
 | none=>xnI
def xhQ (c:xbH) (z:Int) (s:ByteArray) (a:xau) (now:Int):xbH :=
 if xkJ z s a now=1 then (if decide (0≤idx (isS z s) c.Lst)=true then ⟨c.Lst.set (idx (isS z s) c.Lst).toNat ⟨z,s,a⟩⟩ else if (c.Lst.length:Int)<16 then ⟨c.Lst++[⟨z,s,a⟩]⟩ else c) else c
theorem mzA:xaL xnI≤33554432:=by decide
theorem xsE {c:xbH} {z:Int} {s:ByteArray} (h:CB c):xaL (xdV c z s)≤33554432:=by
 unfold xdV
 split
 ·rename_i x hx
  split
  ·exact mzA
  ·exact (h.2 x (List.mem_of_getElem? hx)).2
 ·exact mzA
theorem xtE {c:xbH} {z:Int} {s:ByteArray} {a:xau} {now:Int} (h:CB c) (hs:s.size≤33554432) (ha:xaL a≤33554432):CB (xhQ c z s a now):=by
 obtain ⟨h1,h2⟩:=h
 unfold xhQ
 split
 rotate_left
 ·exact ⟨h1,h2⟩
 split
 ·refine ⟨by simpa using h1,fun x hx=>?_⟩
  rcases List.mem_or_eq_of_mem_set hx with hx | hx
  ·exact h2 x hx
  ·rw [hx];exact ⟨hs,ha⟩
 split
 ·refine ⟨by simp;omega,fun x hx=>?_⟩
  rcases List.mem_append.1 hx with hx | hx
  ·exact h2 x hx
  ·rw [List.mem_singleton.1 hx];exact ⟨hs,ha⟩
 ·exact ⟨h1,h2⟩
structure RSt where
 k:xaS
 c:xbH
 z:Int
 path:List ByteArray
 mv:Int
 zs:List Int
structure xqh where
 k:xaS
 c:xbH
 code:Int
 e:xat
 zs:List Int
 mv:Int
def xeP (l:List ByteArray):ByteArray:=match l[0]? with | some s=>s | none=>⟨#[]⟩
def xec (ask:Int→ByteArray→List xau) (t:RSt):List xau:=xdV t.c t.z (xeP t.path)::ask t.z (xeP t.path)
def sLk (ask:Int→ByteArray→List xau) (now:Int) (t:RSt):=xea t.z (xeP t.path) now t.k [] 0 (xec ask t)
def sCa (ask:Int→ByteArray→List xau) (now:Int) (t:RSt):xbH:=match (sLk ask now t).2.2 with
 | some (_,a)=>xhQ t.c t.z (xeP t.path) a now
 | none=>t.c
def xdU (ask:Int→ByteArray→List xau) (now:Int) (t:RSt):xqh ⊕ RSt :=
 match (sLk ask now t).2.2 with
 | none=>.inl ⟨(sLk ask now t).1,sCa ask now t,3,xaV,t.zs++[t.z],t.mv⟩
 | some (_,a) =>
  if a.Found=false then .inl ⟨(sLk ask now t).1,sCa ask now t,2,xaV,t.zs++[t.z],t.mv⟩ else
  if a.Entry.Kind=3 then
   (if (decide (3≤t.mv)||!xcC (a.Entry.Path++t.path.drop 1))=true then .inl ⟨(sLk ask now t).1,sCa ask now t,5,xaV,t.zs++[t.z],t.mv⟩
    else .inr ⟨(sLk ask now t).1,sCa ask now t,a.Entry.Value,a.Entry.Path++t.path.drop 1,t.mv+1,t.zs++[t.z]⟩)
  else if (t.path.drop 1).length=0 then .inl ⟨(sLk ask now t).1,sCa ask now t,1,a.Entry,t.zs++[t.z],t.mv⟩
  else if a.Entry.Kind=2 then .inr ⟨(sLk ask now t).1,sCa ask now t,a.Entry.Value,t.path.drop 1,t.mv,t.zs++[t.z]⟩
  else .inl ⟨(sLk ask now t).1,sCa ask now t,4,xaV,t.zs++[t.z],t.mv⟩
def xkU (ask:Int→ByteArray→List xau) (now:Int):Nat→RSt→xqh
 | 0,t=>⟨t.k,t.c,0,xaV,t.zs,t.mv⟩
 | n+1,t=>match xdU ask now t with
  | .inl o=>o
  | .inr t=>xkU ask now n t
def mu (t:RSt):Nat:=(3-t.mv).toNat*5+t.path.length
structure PB (p:List ByteArray):Prop where
 pos:1≤p.length
 le:p.length≤4
 lab:∀s∈p,xb2 s=true
theorem xih {p:List ByteArray} (h:xcC p=true):PB p:=by
 unfold xcC inR at h
 simp only [Bool.and_eq_true,decide_eq_true_eq,Bool.not_eq_true',List.any_eq_false,Bool.not_eq_false'] at h
 exact ⟨by omega,by omega,fun s hs=>by simpa using h.2 s hs⟩
theorem xhs {s:ByteArray} (h:xb2 s=true):s.size≤8:=by
 unfold xb2 inR at h
 simp only [Bool.and_eq_true,decide_eq_true_eq] at h
 omega
structure RI (t:RSt):Prop where
 k:KB t.k
 c:CB t.c
 p:PB t.path
 mv0:0≤t.mv
 mv3:t.mv≤3
 zs:t.zs.length+mu t≤1000
theorem PB.first {p:List ByteArray} (h:PB p):∃s r,p=s::r∧xeP p=s∧s.size≤33554432∧xb2 s=true:=by
 cases p with
 | nil=>have:=h.pos;simp at this
 | cons s r =>
  have:=h.lab s List.mem_cons_self
  exact ⟨s,r,rfl,rfl,by have:=xhs this;omega,this⟩
theorem xkz {ask:Int→ByteArray→List xau} {t:RSt} (hA:∀z s,∀a∈ask z s,xaL a≤33554432) (h:RI t):∀a∈xec ask t,xaL a≤33554432:=by
 intro a ha
 unfold xec at ha
 rcases List.mem_cons.1 ha with rfl | ha
 ·exact xsE h.c
 ·exact hA _ _ a ha
theorem xud {ask:Int→ByteArray→List xau} {now:Int} {t:RSt} (hA:∀z s,∀a∈ask z s,xaL a≤33554432) (h:RI t):CB (sCa ask now t):=by
 unfold sCa
 split
 ·rename_i i a hl
  obtain ⟨s,r,hp,hf,hs,_⟩:=h.p.first
  have ha:=(xh8 (show (xea t.z (xeP t.path) now t.k [] 0 (xec ask t)).2.2=some (i,a) from hl)).2.1
  exact xtE h.c (by rw [hf];exact hs) (xkz hA h a (List.mem_of_getElem? ha))
 ·exact h.c
theorem xmb {ask:Int→ByteArray→List xau} {now:Int} {t t':RSt} (hA:∀z s,∀a∈ask z s,xaL a≤33554432) (h:RI t) (hs:xdU ask now t=.inr t'):RI t'∧mu t'<mu t∧t'.zs=t.zs++[t.z]:=by
 have hk:KB (sLk ask now t).1:=xph h.k (xkz hA h)
 have hc:=xud (now:=now) hA h
 have hz:=h.zs
 have h0:=h.mv0
 have h3:=h.mv3
 have hp:=h.p.pos
 unfold xdU at hs
 split at hs
 ·cases hs
 split at hs
 ·cases hs
 split at hs
 ·split at hs
  ·cases hs
  ·rename_i hb
   simp only [Bool.or_eq_true,decide_eq_true_eq,Bool.not_eq_true',not_or,Bool.not_eq_false] at hb
   cases hs
   have hpb:=xih hb.2
   have hple:=hpb.le
   have hm:mu (⟨(sLk ask now t).1,sCa ask now t,‹xau›.Entry.Value,‹xau›.Entry.Path++t.path.drop 1,t.mv+1,t.zs++[t.z]⟩:RSt)<mu t:=by
    unfold mu
    simp only
    have:(3-t.mv).toNat=(3-(t.mv+1)).toNat+1:=by omega
    omega
   exact ⟨⟨hk,hc,hpb,by simp only;omega,by simp only;omega,by simp only [List.length_append,List.length_singleton];omega⟩,hm,rfl⟩
 split at hs
 ·cases hs
 rename_i hr
 split at hs
 rotate_left
 ·cases hs
 cases hs
 obtain ⟨s,r,hp1,_,_,_⟩:=h.p.first
 have hpl:=h.p.le
 rw [hp1] at hr hpl
 simp only [List.drop_succ_cons,List.drop_zero,List.length_cons] at hr hpl
 have hm:mu (⟨(sLk ask now t).1,sCa ask now t,‹xau›.Entry.Value,t.path.drop 1,t.mv,t.zs++[t.z]⟩:RSt)<mu t:=by
  unfold mu
  rw [hp1]
  simp
 refine ⟨⟨hk,hc,⟨?_,?_,fun x hx=>?_⟩,h0,h3,by simp only [List.length_append,List.length_singleton];omega⟩,hm,rfl⟩
 ·simp only [hp1,List.drop_succ_cons,List.drop_zero];omega
 ·simp only [hp1,List.drop_succ_cons,List.drop_zero];omega
 ·exact h.p.lab x (List.mem_of_mem_drop hx)
theorem xik (f:xfb) (h:FB f) (k):call Qdp [.agg (xbR f)] k=k (xbR f):=xaa (fun k=>by
 obtain ⟨h1,h2,h3⟩:=h
 simp [Qdp,xmO f.Before h1,xmO f.A h2,xmO f.B h3]) k
theorem xiU (f:xfb) (h:FB f) (k):call Qbg [.agg (xbR f)] k=k (xbR f):=xaa (fun k=>by
 obtain ⟨h1,h2,h3⟩:=h
 simp [Qbg,xl3 f.Before h1,xl3 f.A h2,xl3 f.B h3]) k
theorem xdb (a:xaS) (h:KB a) (k):call Qdq [.agg (xcM a)] k=k (xcM a):=xaa (fun k=>by
 obtain ⟨hc,hc0,hf,hf0⟩:=h
 simp [Qdq]
 refine xby a.Chains (fun i=>[(.list 1 (a.Chains.map xd3)),I a.Chains.length,I i,(.list 1 (a.Chains.map xd3)),(.list 51 (a.Forks.map xbR)),.list 51 [],.list 1 [],.list 51 [],.list 1 ((a.Chains.take i).map xd3)]) (by simp) (fun i x hx hi K=>?_) fun K=>?_
 ·have e:=xrC x (hc0 x (List.mem_of_getElem? hx))
  rw [xaW hx,List.map_append]
  simp [-getElem?_pos,Qdq_r0,hx,hi,e,xal (show i<1000000000000000000 by omega)]
  try omega
 ·simp [Qdq_r0]
  refine xby a.Forks (fun i=>[(.list 1 (a.Chains.map xd3)),I a.Chains.length,I a.Chains.length,(.list 51 (a.Forks.map xbR)),I a.Forks.length,I i,(.list 1 (a.Chains.map xd3)),(.list 51 (a.Forks.map xbR)),.list 51 [],.list 1 [],.list 51 ((a.Forks.take i).map xbR),(.list 1 (a.Chains.map xd3))]) (by simp) (fun i x hx hi K=>?_) fun K=>?_
  ·have e:=xik x (hf0 x (List.mem_of_getElem? hx))
   rw [xaW hx,List.map_append]
   simp [-getElem?_pos,Qdq_r1,hx,hi,e,xal (show i<1000000000000000000 by omega)]
   try omega
  ·simp [Qdq_r1]) k
theorem xdR (a:xaS) (h:KB a) (k):call Qbh [.agg (xcM a)] k=k (xcM a):=xaa (fun k=>by
 obtain ⟨hc,hc0,hf,hf0⟩:=h
 simp [Qbh]
 refine xby a.Chains (fun i=>[I i,(.list 1 (a.Chains.map xd3)),(.list 51 (a.Forks.map xbR)),.list 51 [],.list 1 [],.list 51 [],.list 1 ((a.Chains.take i).map xd3)]) (by simp) (fun i x hx hi K=>?_) fun K=>?_
 ·have e:=xrL x (hc0 x (List.mem_of_getElem? hx))
  rw [xaW hx,List.map_append]
  simp [-getElem?_pos,Qbh_r0,hx,hi,e,xal (show i<1000000000000000000 by omega)]
  try omega
 ·simp [Qbh_r0]
  refine xby a.Forks (fun i=>[I a.Chains.length,I i,(.list 1 (a.Chains.map xd3)),(.list 51 (a.Forks.map xbR)),.list 51 [],.list 1 [],.list 51 ((a.Forks.take i).map xbR),(.list 1 (a.Chains.map xd3))]) (by simp) (fun i x hx hi K=>?_) fun K=>?_
  ·have e:=xiU x (hf0 x (List.mem_of_getElem? hx))
   rw [xaW hx,List.map_append]
   simp [-getElem?_pos,Qbh_r1,hx,hi,e,xal (show i<1000000000000000000 by omega)]
   try omega
  ·simp [Qbh_r1]) k
theorem xgJ (s:xce) (h:SB s) (k):call Qdu [.agg (xbz s)] k=k (xbz s):=xaa (fun k=>by
 simp [Qdu,xtn s.Answer h.2]) k
theorem xeG (a:xbH) (h:CB a) (k):call Qdv [.agg (xbY a)] k=k (xbY a):=xaa (fun k=>by
 obtain ⟨hl,hx0⟩:=h
 simp [Qdv]
 refine xby a.Lst (fun i=>[.list 23 (a.Lst.map xbz),I a.Lst.length,I i,.list 23 [],.list 23 ((a.Lst.take i).map xbz)]) (by simp) (fun i x hx hi K=>?_) fun K=>?_
 ·have e:=xgJ x (hx0 x (List.mem_of_getElem? hx))
  rw [xaW hx,List.map_append]
  simp [-getElem?_pos,Qdv_r0,hx,hi,e,xal (show i<1000000000000000000 by omega)]
  try omega
 ·simp [Qdv_r0]) k
theorem xfr (a:xbH) (h:CB a) (k):call Qbn [.agg (xbY a)] k=k (xbY a):=xaa (fun k=>by
 obtain ⟨hl,hx0⟩:=h
 simp [Qbn]
 refine xby a.Lst (fun i=>[I i,.list 23 (a.Lst.map xbz),.list 23 [],.list 23 ((a.Lst.take i).map xbz)]) (by simp) (fun i x hx hi K=>?_) fun K=>?_
 ·have e:=xtw x.Answer (hx0 x (List.mem_of_getElem? hx)).2
  rw [xaW hx,List.map_append]
  simp [-getElem?_pos,Qbn_r0,hx,hi,e,xal (show i<1000000000000000000 by omega)]
  try omega
 ·simp [Qbn_r0]) k
theorem xkj (f:xfb) (h:FB f) (k):call Qjv [.agg (xbR f)] k=k [.bool (xfF f)]:=xaa (fun k=>by
 obtain ⟨h1,h2,h3⟩:=h
 have e1:=xrt f.A.Head f.B.Head (xa5 h2).1 (xa5 h3).1
 have e2:=xvF f.Before xhb h1 mzS
 have e3:=xtl f.A h2
 have e4:=xtl f.B h3
 have e5:=xtj f.Before.Head f.A (xa5 h1).1 h2
 have e6:=xtj f.Before.Head f.B (xa5 h1).1 h3
 simp only [Qjv,un,cur0]
 rw [show [I 0,I 0,I 0,I 0,I 0,I 0,I 0,I 0,PV.list 1 [],I 0,PV.list 1 [],I 0,I 0,PV.list 1 [],I 0,PV.bool false,PV.list 2 []]=xam xhb from rfl]
 simp only [e1,e2,e3,e4,e5,e6,xaG,xd4,xaf,xah,xaw,xao,xai,xan,true_and]
 unfold xfF
 cases decide (f.A.Head=f.B.Head)<;>cases decide (f.Before=xhb)<;>cases xcQ f.A<;>cases xcQ f.B<;>cases xnP f.Before.Head f.A<;>simp) k
theorem xj0 (f:xfb) (h:FB f) (k):call Qih [.agg (xbR f)] k=k [.bool (xfF f)]:=xaa (fun k=>by
 obtain ⟨h1,h2,h3⟩:=h
 have e1:=xrw f.A.Head f.B.Head (xa5 h2).1 (xa5 h3).1
 have e2:=xvV f.Before xhb h1 mzS
 have e3:=xtt f.A h2
 have e4:=xtt f.B h3
 have e5:=xtr f.Before.Head f.A (xa5 h1).1 h2
 have e6:=xtr f.Before.Head f.B (xa5 h1).1 h3
 simp only [Qih,un,cur0]
 rw [show [I 0,I 0,I 0,I 0,I 0,I 0,I 0,I 0,PV.list 1 [],I 0,PV.list 1 [],I 0,I 0,PV.list 1 [],I 0,PV.bool false,PV.list 2 []]=xam xhb from rfl]
 simp only [e1,e2,e3,e4,e5,e6,xaG,xd4,xaf,xah,xaw,xao,xai,xan,true_and]
 unfold xfF
 cases decide (f.A.Head=f.B.Head)<;>cases decide (f.Before=xhb)<;>cases xcQ f.A<;>cases xcQ f.B<;>cases xnP f.Before.Head f.A<;>simp) k
theorem xil (f:xfb) (h:FB f) (k):call Qjw [.agg (xbR f)] k=k [I (sFZ f)]:=xaa (fun k=>by
 have e:=xkj f h
 simp only [Qjw,un,cur0]
 simp only [e,xba,xaf,xah,xaw,xao,xai,xas,true_and]
 unfold sFZ
 cases xfF f<;>simp) k
theorem xhI (f:xfb) (h:FB f) (k):call Qii [.agg (xbR f)] k=k [I (sFZ f)]:=xaa (fun k=>by
 have e:=xj0 f h
 simp only [Qii,un,cur0]
 simp only [e,xba,xaf,xah,xaw,xao,xai,xas,true_and]
 unfold sFZ
 cases xfF f<;>simp) k
theorem xgM (f:xfb) (z:Int) (h:FB f) (k):call Qjx [.agg (xbR f),.ro (.cells [I z])] k=k [.bool (decide (sFZ f=z))]:=xaa (fun k=>by
 have e:=xil f h
 simp only [Qjx,un,cur0]
 simp only [e,xaG,xd4,xaf,xaw,xao,xai,xan,true_and]) k
theorem xpz (k:xaS) (z:Int) (h:0≤z):xdW k z=k.Forks.any (fun f=>decide (sFZ f=z)):=by
 unfold xdW
 simp [h]
theorem xeY (a:xaS) (z:Int) (h:KB a) (k):call Qka [.agg (xcM a),.one (I z)] k=k [.bool (xdW a z)]:=xaa (fun k=>by
 obtain ⟨_,_,hf,hf0⟩:=h
 have e0:∀k,call Qjy [.one (.list 51 (a.Forks.map xbR)),.fn 338 [.cells [I z]]] k=k [I (idx (fun f=>decide (sFZ f=z)) a.Forks)]:=xaa (fun k=>by
  simp [Qjy]
  refine xdv (Q:=fun i=>k [I i]) a.Forks (fun i=>[.list 51 (a.Forks.map xbR),I z,I 0,I a.Forks.length,I i]) (fun f=>decide (sFZ f=z)) rfl (fun i x hx hi K=>?_) fun K=>?_
  ·have e:=xgM x z (hf0 x (List.mem_of_getElem? hx))
   simp [-getElem?_pos,Qjy_r0,hx,hi,e,xal (show i<1000000000000000000 by omega)]
  ·simp [Qjy_r0])
 have e:∀k,call Qjz [.one (.list 51 (a.Forks.map xbR)),.fn 338 [.cells [I z]]] k=k [.bool (a.Forks.any fun f=>decide (sFZ f=z))]:=xaa (fun k=>by
  simp only [Qjz,un,cur0,e0,xcf,xaf,xaw,xao,xai,xan,true_and,xmq])
 simp only [Qka,un,cur0,xcf,xah]
 by_cases hz:0≤z
 ·simp [hz,e,xpz a z hz]
 ·simp [hz,xdW]) k
theorem xeM (a:xaS) (z:Int) (h:KB a) (k):call Qij [.agg (xcM a),.one (I z)] k=k [.bool (xdW a z)]:=xaa (fun k=>by
 obtain ⟨_,_,hf,hf0⟩:=h
 simp only [Qij,un,cur0]
 have hs:xdW a z=(a.Forks.any (fun f=>decide (sFZ f=z)&&decide (0≤z))==true):=by
  unfold xdW
  by_cases hz:0≤z<;>simp [hz]
 rw [hs]
 refine xsA k true a.Forks (fun i=>[I z,.bool false,I i,chains a.Chains,.list 51 (a.Forks.map xbR)]) (fun f=>decide (sFZ f=z)&&decide (0≤z)) rfl (fun i x hx hi K=>?_) fun K=>?_
 ·have e:=xhI x (hf0 x (List.mem_of_getElem? hx))
  simp [-getElem?_pos,Qij_r0,hx,hi,e,xal (show i<1000000000000000000 by omega)]
  by_cases h1:sFZ x=z<;>by_cases h2:0≤z<;>simp [h1,h2]
 ·simp [Qij_r0]) k
theorem xin {α:Type} {p:α→Bool} {l:List α} (h:¬idx p l<0):0≤idx p l∧(idx p l).toNat<l.length∧∃d,l[(idx p l).toNat]? = some d:=by
 have hb:=xhv p l 0
 unfold idx at h ⊢
 rcases hb with h1 | ⟨h1,h2⟩
 ·omega
 ·have hl:(xey p 0 l).toNat<l.length:=by omega
  exact ⟨by omega,hl,l[(xey p 0 l).toNat],List.getElem?_eq_getElem hl⟩
theorem xqR {k:xaS} {c d:List xag} (h:k.Chains[(kI k c).toNat]? = some d):kC k c=d:=by
 unfold kC;rw [List.getD_eq_getElem?_getD,h];rfl
theorem xmp (a:xaS) (l:List xag) (hk:KB a) (h:xar l≤33554432) (k):call Qjq [.agg (xcM a),.one (.list 17 (l.map xam))] k=k [I (xc8 a l)]:=xaa (fun k=>by
 have e1:=xol l h
 unfold xc8
 cases c1:xaN l with
 | false=>simp [Qjq,e1,c1]
 | true =>
 obtain ⟨s,hs⟩:=xcn c1
 have hz:fz l=s.Head.Zone:=by simp [fz,hs]
 have e2:∀k,call Qjn [.agg [chains a.Chains,.list 51 (a.Forks.map xbR)],.one (I s.Head.Zone)] k=k [I (kI a l)]:=by
  have:=xfL a (fz l) hk.1
  rw [hz] at this
  unfold kI
  rw [hz]
  exact this
 have hlen:=xaK hs
 by_cases c2:kI a l<0
 ·simp [-getElem?_pos,Qjq,e1,c1,hs,e2,c2]
 ·obtain ⟨h0,hl,d,hd⟩:=xin (p:=xmu (fz l)) (l:=a.Chains) c2
  have hd':a.Chains[(kI a l).toNat]? = some d:=hd
  have h0':0≤kI a l:=h0
  have hC:=xqR hd'
  have hm:=hk.2.1 d (List.mem_of_getElem? hd)
  have e3:=xrs d l hm h
  have e4:=xrs l d h hm
  rw [hC]
  simp [-getElem?_pos,Qjq,e1,c1,hs,e2,c2,hd',h0',e3,e4]
  cases xiS d l<;>cases xiS l d<;>simp) k
theorem xmc (a:xaS) (l:List xag) (hk:KB a) (h:xar l≤33554432) (k):call Qhs [.agg (xcM a),.one (.list 17 (l.map xam))] k=k [I (xc8 a l)]:=xaa (fun k=>by
 have e1:=xrF l h
 unfold xc8
 cases c1:xaN l with
 | false=>simp [Qhs,e1,c1]
 | true =>
 obtain ⟨s,hs⟩:=xcn c1
 have hz:fz l=s.Head.Zone:=by simp [fz,hs]
 have e2:∀k,call Qhp [.agg [chains a.Chains,.list 51 (a.Forks.map xbR)],.one (I s.Head.Zone)] k=k [I (kI a l)]:=by
  have:=xte a (fz l) hk.1
  rw [hz] at this
  unfold kI
  rw [hz]
  exact this
 have hlen:=xaK hs
 by_cases c2:kI a l<0
 ·simp [-getElem?_pos,Qhs,e1,c1,hs,e2,c2]
 ·obtain ⟨h0,hl,d,hd⟩:=xin (p:=xmu (fz l)) (l:=a.Chains) c2
  have hd':a.Chains[(kI a l).toNat]? = some d:=hd
  have h0':0≤kI a l:=h0
  have hC:=xqR hd'
  have hm:=hk.2.1 d (List.mem_of_getElem? hd)
  have e3:=xrv d l hm h
  have e4:=xrv l d h hm
  rw [hC]
  simp [-getElem?_pos,Qhs,e1,c1,hs,e2,c2,hd',h0',e3,e4]
  cases xiS d l<;>cases xiS l d<;>simp) k
theorem xll (a:xaS) (l:List xag) (hk:KB a) (h:xar l≤33554432) (k):call Qjs [.agg (xcM a),.one (.list 17 (l.map xam))] k=k (xcM (xdp a l).1++[I (xdp a l).2]):=xaa (fun k=>by
 have e1:=xdb a hk
 have e2:=xmp a l hk h
 have e3:=xrC l h
 have hch:=hk.1
 have hfl:=hk.2.2.1
 unfold xdp
 by_cases c1:xc8 a l=1
 ·by_cases c2:(8:Int)≤a.Chains.length
  ·simp [Qjs,e1,e2,e3,c1,c2]
  ·simp [Qjs,e1,e2,e3,c1,c2,show a.Chains.length<1073741823 by omega]
   try (intro _;omega)
 by_cases c3:xc8 a l=3
 ·have hc:xaN l=true:=by
   by_cases hc:xaN l=true
   ·exact hc
   ·unfold xc8 at c3;rw [if_neg hc] at c3;cases c3
  have hi:¬kI a l<0:=by
   intro hi
   unfold xc8 at c3;rw [if_pos hc,if_pos (by simpa using hi)] at c3;cases c3
  obtain ⟨s,hs⟩:=xcn hc
  have hz:fz l=s.Head.Zone:=by simp [fz,hs]
  have e4:∀k,call Qjn [.agg [chains a.Chains,.list 51 (a.Forks.map xbR)],.one (I s.Head.Zone)] k=k [I (kI a l)]:=by
   have:=xfL a (fz l) hk.1
   rw [hz] at this
   unfold kI
   rw [hz]
   exact this
  obtain ⟨h0,hl,d,hd⟩:=xin (p:=xmu (fz l)) (l:=a.Chains) hi
  have hd':a.Chains[(kI a l).toNat]? = some d:=hd
  have h0':0≤kI a l:=h0
  have hl':(kI a l).toNat<a.Chains.length:=hl
  have hlen:=xaK hs
  simp [-getElem?_pos,Qjs,e1,e2,e3,c3,hs,e4,h0',hl',hd',over]
 by_cases c5:xc8 a l=5
 ·have hc:xaN l=true:=by
   by_cases hc:xaN l=true
   ·exact hc
   ·unfold xc8 at c5;rw [if_neg hc] at c5;cases c5
  have hi:¬kI a l<0:=by
   intro hi
   unfold xc8 at c5;rw [if_pos hc,if_pos (by simpa using hi)] at c5;cases c5
  obtain ⟨s,hs⟩:=xcn hc
  have hz:fz l=s.Head.Zone:=by simp [fz,hs]
  have e4:∀k,call Qjn [.agg [chains a.Chains,.list 51 (a.Forks.map xbR)],.one (I s.Head.Zone)] k=k [I (kI a l)]:=by
   have:=xfL a (fz l) hk.1
   rw [hz] at this
   unfold kI
   rw [hz]
   exact this
  obtain ⟨h0,hl,d,hd⟩:=xin (p:=xmu (fz l)) (l:=a.Chains) hi
  have hd':a.Chains[(kI a l).toNat]? = some d:=hd
  have h0':0≤kI a l:=h0
  have hl':(kI a l).toNat<a.Chains.length:=hl
  have hC:=xqR hd'
  have hm:=hk.2.1 d (List.mem_of_getElem? hd)
  have e5:=xvH d l hm h
  have hlen:=xaK hs
  rw [hC]
  cases hf:xeq d l with
  | none =>
   rw [hf] at e5
   simp [-getElem?_pos,Qjs,e1,e2,e3,c5,hs,e4,h0',hl',hd',e5,xc2]
  | some f =>
   rw [hf] at e5
   by_cases c6:(a.Forks.length:Int)<8
   ·simp [-getElem?_pos,Qjs,e1,e2,e3,c5,hs,e4,h0',hl',hd',e5,xc2,c6,show a.Forks.length<1073741823 by omega]
    try (intro _;omega)
   ·simp [-getElem?_pos,Qjs,e1,e2,e3,c5,hs,e4,h0',hl',hd',e5,xc2,c6]
 simp [Qjs,e1,e2,e3,c1,c3,c5]) k
theorem xkP (a:xaS) (l:List xag) (hk:KB a) (h:xar l≤33554432) (k):call Qhu [.agg (xcM a),.one (.list 17 (l.map xam))] k=k (xcM (xdp a l).1++[I (xdp a l).2]):=xaa (fun k=>by
 have e1:=xdR a hk
 have e2:=xmc a l hk h
 have e3:=xrL l h
 have hch:=hk.1
 have hfl:=hk.2.2.1
 unfold xdp
 by_cases c1:xc8 a l=1
 ·by_cases c2:(8:Int)≤a.Chains.length
  ·simp [Qhu,e1,e2,e3,c1,c2]
  ·simp [Qhu,e1,e2,e3,c1,c2,show a.Chains.length<1073741823 by omega]
   try (intro _;omega)
 by_cases c3:xc8 a l=3
 ·have hc:xaN l=true:=by
   by_cases hc:xaN l=true
   ·exact hc
   ·unfold xc8 at c3;rw [if_neg hc] at c3;cases c3
  have hi:¬kI a l<0:=by
   intro hi
   unfold xc8 at c3;rw [if_pos hc,if_pos (by simpa using hi)] at c3;cases c3
  obtain ⟨s,hs⟩:=xcn hc
  have hz:fz l=s.Head.Zone:=by simp [fz,hs]
  have e4:∀k,call Qhp [.agg [chains a.Chains,.list 51 (a.Forks.map xbR)],.one (I s.Head.Zone)] k=k [I (kI a l)]:=by
   have:=xte a (fz l) hk.1
   rw [hz] at this
   unfold kI
   rw [hz]
   exact this
  obtain ⟨h0,hl,d,hd⟩:=xin (p:=xmu (fz l)) (l:=a.Chains) hi
  have hd':a.Chains[(kI a l).toNat]? = some d:=hd
  have h0':0≤kI a l:=h0
  have hl':(kI a l).toNat<a.Chains.length:=hl
  have hlen:=xaK hs
  simp [-getElem?_pos,Qhu,e1,e2,e3,c3,hs,e4,h0',hl',hd',over]
 by_cases c5:xc8 a l=5
 ·have hc:xaN l=true:=by
   by_cases hc:xaN l=true
   ·exact hc
   ·unfold xc8 at c5;rw [if_neg hc] at c5;cases c5
  have hi:¬kI a l<0:=by
   intro hi
   unfold xc8 at c5;rw [if_pos hc,if_pos (by simpa using hi)] at c5;cases c5
  obtain ⟨s,hs⟩:=xcn hc
  have hz:fz l=s.Head.Zone:=by simp [fz,hs]
  have e4:∀k,call Qhp [.agg [chains a.Chains,.list 51 (a.Forks.map xbR)],.one (I s.Head.Zone)] k=k [I (kI a l)]:=by
   have:=xte a (fz l) hk.1
   rw [hz] at this
   unfold kI
   rw [hz]
   exact this
  obtain ⟨h0,hl,d,hd⟩:=xin (p:=xmu (fz l)) (l:=a.Chains) hi
  have hd':a.Chains[(kI a l).toNat]? = some d:=hd
  have h0':0≤kI a l:=h0
  have hl':(kI a l).toNat<a.Chains.length:=hl
  have hC:=xqR hd'
  have hm:=hk.2.1 d (List.mem_of_getElem? hd)
  have e5:=xv2 d l hm h
  have hlen:=xaK hs
  rw [hC]
  cases hf:xeq d l with
  | none =>
   rw [hf] at e5
   simp [-getElem?_pos,Qhu,e1,e2,e3,c5,hs,e4,h0',hl',hd',e5,xc2]
  | some f =>
   rw [hf] at e5
   by_cases c6:(a.Forks.length:Int)<8
   ·simp [-getElem?_pos,Qhu,e1,e2,e3,c5,hs,e4,h0',hl',hd',e5,xc2,c6,show a.Forks.length<1073741823 by omega]
    try (intro _;omega)
   ·simp [-getElem?_pos,Qhu,e1,e2,e3,c5,hs,e4,h0',hl',hd',e5,xc2,c6]
 simp [Qhu,e1,e2,e3,c1,c3,c5]) k
theorem xpe {R:(List PV→Prop)→List PV→Prop} {z:Int} {s:ByteArray} {now:Int} (l:List xau) (V:Nat→xaS→List Int→List PV) (fin:xaS×List Int×Option (Nat×xau)→Prop)
 (ha:∀a∈l,xaL a≤33554432)
 (h:∀i a k cs,l[i]? = some a→i<l.length→KB k→cs.length=i→∀K,R K (V i k cs)↔if xm2 k a z s now=1 then fin ((xoo k a z).1,cs++[xm2 k a z s now],some (i,a)) else K (V (i+1) (xoo k a z).1 (cs++[xm2 k a z s now])))
 (hf:∀k cs K,R K (V l.length k cs)↔fin (k,cs,none)) (k:xaS) (hk:KB k):lp R (V 0 k [])↔fin (xea z s now k [] 0 l):=by
 have key:∀(r:List xau) (i:Nat) (k:xaS) (cs:List Int),l.drop i=r→i≤l.length→KB k→cs.length=i→(lp R (V i k cs)↔fin (xea z s now k cs i r)):=by
  intro r
  induction r with
  | nil =>
   intro i k cs hd hi hk hc
   have:i=l.length:=by
    have:=congrArg List.length hd
    simp at this;omega
   subst this
   exact xaI (hf k cs)
  | cons a r ih =>
   intro i k cs hd hi hk hc
   have hx:l[i]? = some a:=by
    have:=congrArg (fun q=>q[0]?) hd
    simpa using this
   have hlt:=xaK hx
   have hstep:=h i a k cs hx hlt hk hc
   rw [xea]
   by_cases he:xm2 k a z s now=1
   ·rw [if_pos he]
    exact xaI fun K=>by rw [hstep K,if_pos he]
   ·rw [if_neg he]
    refine (xbV fun K=>by rw [hstep K,if_neg he]).trans ?_
    refine ih (i+1) _ _ ?_ (by omega) (xsa hk (ha a (List.mem_of_getElem? hx))) (by simp [hc])
    rw [←List.drop_drop,hd];rfl
 exact key l 0 k [] rfl (Nat.zero_le _) hk rfl
def xet (q:xaS×List Int×Option (Nat×xau)):xqe:=match q with
 | (k,cs,some (_,a))=>⟨k,a.Found,a.Entry,true,cs⟩
 | (k,cs,none)=>⟨k,false,xaV,false,cs⟩
def xkc (q:xaS×List Int×Option (Nat×xau)):Int:=match q with
 | (_,_,some (i,_))=>i
 | (_,_,none)=>-1
theorem xpa {k:xaS} {a:xau} {z:Int} (h1:xaN a.Chain=true) (h2:fz a.Chain=z):xoo k a z=xdp k a.Chain:=by
 unfold xoo;rw [if_pos (by simp [h1,h2])]
theorem xj9 {k:xaS} {a:xau} {z:Int} (h:¬(xaN a.Chain=true∧fz a.Chain=z)):xoo k a z=(k,6):=by
 unfold xoo;rw [if_neg (by simpa using h)]
theorem xaT (cs:List Int) (c:Int):(ints (cs++[c]))=.list 1 (cs.map rI++[[I c]]):=by simp [rI]
theorem xkh (k0:xaS) (l:List xau) (z:Int) (s:ByteArray) (now:Int) (hk:KB k0) (hl:l.length≤33554432) (ha:∀a∈l,xaL a≤33554432) (hs:s.size≤33554432) (k) :
 call Qkb [.agg (xcM k0),.one (.list 21 (l.map xax)),.one (I z),.one (.str s),.one (I now)] k=k (xeI (xet (xea z s now k0 [] 0 l))++[I (xkc (xea z s now k0 [] 0 l))]):=xaa (fun k=>by
 have e0:=xdb k0 hk
 simp only [Qkb,un,cur0]
 simp only [e0,xaA,List.length_map,xaf,xbi]
 refine xpe (z:=z) (s:=s) (now:=now) l (fun i k cs=>[I z,.str s,I now,I 0,.list 21 (l.map xax),I l.length,I i,.bool false,.str ⟨#[]⟩,I 0,I 0,.bool false,.bool false,.str ⟨#[]⟩,I 0,I 0,.bool false,.list 1 [],.list 1 [],.list 51 [],.list 1 [],ints cs,.list 1 [],chains k.Chains,.list 51 (k.Forks.map xbR)])
  (fun q=>k (xeI (xet q)++[I (xkc q)])) ha (fun i a k1 cs hx hi hk1 hc K=>?_) (fun k1 cs K=>?_) k0 hk
 ·have hm:=ha a (List.mem_of_getElem? hx)
  have e1:=xup z s a now hs hm
  have e2:=xol a.Chain (xbu hm).1
  have e3:=xll k1 a.Chain hk1 (xbu hm).1
  have e4:=xeY k1 z hk1
  have e5:=xeY (xdp k1 a.Chain).1 z (xkH hk1 (xbu hm).1)
  have e6:=xkF a.Entry (xbu hm).2.1
  have hcl:cs.length+1<1073741824:=by omega
  by_cases h1:xaN a.Chain=true
  rotate_left
  ·have hM:=xj9 (k:=k1) (z:=z) (fun q=>h1 q.1)
   unfold xm2
   rw [hM]
   simp only [show inR 6 1 3=false by decide,Bool.false_and,Bool.not_false,Bool.and_true]
   by_cases hA:xkJ z s a now=1
   ·simp [-getElem?_pos,xaT,Qkb_r0,hx,hi,e1,e2,h1,hA,xdA,show inR 6 1 3=false by decide,hcl,xal (show i<1000000000000000000 by omega)]
   ·simp [-getElem?_pos,xaT,Qkb_r0,hx,hi,e1,e2,h1,hA,xdA,show inR 6 1 3=false by decide,hcl,xal (show i<1000000000000000000 by omega)]
  obtain ⟨c0,hc0⟩:=xcn h1
  have hc0l:=xaK hc0
  have hfz:fz a.Chain=c0.Head.Zone:=by simp [fz,hc0]
  by_cases h2:c0.Head.Zone=z
  rotate_left
  ·have hM:=xj9 (k:=k1) (a:=a) (z:=z) (fun q=>h2 (by rw [←hfz];exact q.2))
   unfold xm2
   rw [hM]
   simp only [show inR 6 1 3=false by decide,Bool.false_and,Bool.not_false,Bool.and_true]
   by_cases hA:xkJ z s a now=1
   ·simp [-getElem?_pos,xaT,Qkb_r0,hx,hi,e1,e2,h1,hc0,h2,hA,xdA,show inR 6 1 3=false by decide,hcl,xal (show i<1000000000000000000 by omega)]
   ·simp [-getElem?_pos,xaT,Qkb_r0,hx,hi,e1,e2,h1,hc0,h2,hA,xdA,show inR 6 1 3=false by decide,hcl,xal (show i<1000000000000000000 by omega)]
  have hM:=xpa (k:=k1) (z:=z) h1 (by rw [hfz];exact h2)
  unfold xm2
  rw [hM]
  by_cases hA:xkJ z s a now=1<;>by_cases hr:inR (xdp k1 a.Chain).2 1 3=true<;>by_cases hF:xdW (xdp k1 a.Chain).1 z=true
  all_goals try simp only [Bool.not_eq_true] at hr
  all_goals try simp only [Bool.not_eq_true] at hF
  all_goals simp [-getElem?_pos,xaT,Qkb_r0,hx,hi,e1,e2,e3,e5,e6,h1,hc0,h2,hA,hr,hF,xdA,hcl,xet,xkc,xal (show i<1000000000000000000 by omega)]
 ·simp [Qkb_r0,xet,xkc,xaV]
  rfl) k
theorem xjZ (k0:xaS) (l:List xau) (z:Int) (s:ByteArray) (now:Int) (hk:KB k0) (hl:l.length≤33554432) (ha:∀a∈l,xaL a≤33554432) (hs:s.size≤33554432) (k) :
 call Qik [.agg (xcM k0),.one (.list 21 (l.map xax)),.one (I z),.one (.str s),.one (I now)] k=k (xeI (xet (xea z s now k0 [] 0 l))):=xaa (fun k=>by
 have e0:=xdR k0 hk
 simp only [Qik,un,cur0]
 simp only [e0,xaf,xbi]
 refine xpe (z:=z) (s:=s) (now:=now) l (fun i k cs=>[.list 21 (l.map xax),I z,.str s,I now,I i,chains k.Chains,.list 51 (k.Forks.map xbR),.bool false,.str ⟨#[]⟩,I 0,I 0,.list 1 [],.bool false,.list 1 [],.list 51 [],.bool false,.str ⟨#[]⟩,I 0,I 0,.list 1 [],.bool false,.list 1 [],ints cs])
  (fun q=>k (xeI (xet q))) ha (fun i a k1 cs hx hi hk1 hc K=>?_) (fun k1 cs K=>?_) k0 hk
 ·have hm:=ha a (List.mem_of_getElem? hx)
  have e1:=xuu z s a now hs hm
  have e2:=xrE a.Chain (xbu hm).1
  have e3:=xkP k1 a.Chain hk1 (xbu hm).1
  have e4:=xeM k1 z hk1
  have e5:=xeM (xdp k1 a.Chain).1 z (xkH hk1 (xbu hm).1)
  have e6:=xkG a.Entry (xbu hm).2.1
  have hcl:cs.length+1<1073741824:=by omega
  have d6:inR 6 1 3=false:=by decide
  cases hL:xdq a.Chain with
  | none =>
   rw [hL] at e2
   have h1:=xjz hL
   have hM:=xj9 (k:=k1) (a:=a) (z:=z) (fun q=>by rw [h1] at q;cases q.1)
   unfold xm2
   rw [hM]
   simp only [d6,Bool.false_and,Bool.not_false,Bool.and_true]
   by_cases hA:xkJ z s a now=1
   ·simp [-getElem?_pos,xaT,Qik_r0,hx,hi,e1,e2,xeg,hA,hcl,xal (show i<1000000000000000000 by omega)]
   ·simp [-getElem?_pos,xaT,Qik_r0,hx,hi,e1,e2,xeg,hA,hcl,xal (show i<1000000000000000000 by omega)]
  | some p =>
   rw [hL] at e2
   obtain ⟨h1,hfz⟩:=xpm hL
   by_cases h2:p.Zone=z
   rotate_left
   ·have hM:=xj9 (k:=k1) (a:=a) (z:=z) (fun q=>h2 (by rw [hfz];exact q.2))
    unfold xm2
    rw [hM]
    simp only [d6,Bool.false_and,Bool.not_false,Bool.and_true]
    by_cases hA:xkJ z s a now=1
    ·simp [-getElem?_pos,xaT,Qik_r0,hx,hi,e1,e2,xeg,h2,hA,hcl,xal (show i<1000000000000000000 by omega)]
    ·simp [-getElem?_pos,xaT,Qik_r0,hx,hi,e1,e2,xeg,h2,hA,hcl,xal (show i<1000000000000000000 by omega)]
   have hM:=xpa (k:=k1) (a:=a) (z:=z) h1 (by rw [←hfz];exact h2)
   unfold xm2
   rw [hM]
   generalize hq:xdp k1 a.Chain=q at *
   obtain ⟨k2,m⟩:=q
   simp only at e3 e5 ⊢
   have key:(m=1∨m=2∨m=3)∧inR m 1 3=true∨(¬m=1∧¬m=2∧¬m=3)∧inR m 1 3=false:=by
    unfold inR
    by_cases q1:m=1
    ·subst q1;simp
    by_cases q2:m=2
    ·subst q2;simp
    by_cases q3:m=3
    ·subst q3;simp
    right
    simp [q1,q2,q3];omega
   by_cases hA:xkJ z s a now=1<;>by_cases hF:xdW k2 z=true
   all_goals try simp only [Bool.not_eq_true] at hF
   all_goals rcases key with ⟨q | q | q,hr⟩ | ⟨⟨q1,q2,q3⟩,hr⟩
   all_goals first
    | (subst q;simp [-getElem?_pos,xaT,Qik_r0,hx,hi,e1,e2,e3,e5,e6,xeg,h2,hA,hr,hF,hcl,xet,xeI,xal (show i<1000000000000000000 by omega)];done)
    | (simp [-getElem?_pos,xaT,Qik_r0,hx,hi,e1,e2,e3,e5,e6,xeg,h2,hA,hr,hF,q1,q2,q3,hcl,xet,xeI,xal (show i<1000000000000000000 by omega)];done)
 ·simp [Qik_r0,xet,xaV]
  rfl) k
theorem xko {c:xbH} {z:Int} {s:ByteArray} (h:¬idx (isS z s) c.Lst<0):∃x,c.Lst[(idx (isS z s) c.Lst).toNat]? = some x∧xdV c z s=x.Answer∧0≤idx (isS z s) c.Lst∧(idx (isS z s) c.Lst).toNat<c.Lst.length:=by
 obtain ⟨h0,hl,x,hx⟩:=xin h
 refine ⟨x,hx,?_,h0,hl⟩
 unfold xdV
 rw [hx]
 simp [h]
theorem xpy {c:xbH} {z:Int} {s:ByteArray} (h:idx (isS z s) c.Lst<0):xdV c z s=xnI:=by
 unfold xdV
 split
 ·simp [h]
 ·rfl
theorem xhg (c:xbH) (z:Int) (s:ByteArray) (hc:CB c) (k):call Qkm [.agg (xbY c),.one (I z),.one (.str s)] k=k (xax (xdV c z s)):=xaa (fun k=>by
 have e1:=xg1 c z s hc.1
 by_cases h:idx (isS z s) c.Lst<0
 ·rw [xpy h]
  simp [Qkm,e1,h,xnI,xaV,xeB,xqi]
  rfl
 ·obtain ⟨x,hx,hf,h0,hl⟩:=xko h
  rw [hf]
  have e2:=xtn x.Answer (hc.2 x (List.mem_of_getElem? hx)).2
  simp [-getElem?_pos,Qkm,e1,h,hx,h0,e2]) k
theorem xhd (c:xbH) (z:Int) (s:ByteArray) (hc:CB c) (k):call Qkd [.agg (xbY c),.one (I z),.one (.str s)] k=k (xax (xdV c z s)):=xaa (fun k=>by
 have e1:=xuo c z s hc.1
 by_cases h:idx (isS z s) c.Lst<0
 ·rw [xpy h]
  simp [Qkd,e1,h,xnI,xaV,xeB,xqi]
  rfl
 ·obtain ⟨x,hx,hf,h0,hl⟩:=xko h
  rw [hf]
  have e2:=xtw x.Answer (hc.2 x (List.mem_of_getElem? hx)).2
  simp [-getElem?_pos,Qkd,e1,h,hx,h0,e2]) k
theorem xgL (c:xbH) (z:Int) (s:ByteArray) (a:xau) (now:Int) (hc:CB c) (hs:s.size≤33554432) (ha:xaL a≤33554432) (k):call Qko [.agg (xbY c),.one (I z),.one (.str s),.agg (xax a),.one (I now)] k=k (xbY (xhQ c z s a now)):=xaa (fun k=>by
 have e0:=xeG c hc
 have e1:=xup z s a now hs ha
 have e2:=xtn a ha
 have e3:=xg1 c z s hc.1
 have hl1:=hc.1
 unfold xhQ
 by_cases hA:xkJ z s a now=1
 rotate_left
 ·simp [Qko,e0,e1,hA]
 by_cases h:idx (isS z s) c.Lst<0
 ·have h':¬0≤idx (isS z s) c.Lst:=by omega
  by_cases h6:(c.Lst.length:Int)<16
  ·simp [Qko,e0,e1,e2,e3,hA,h',h6,show c.Lst.length+1<1073741824 by omega,xbY,List.map_append]
  ·simp [Qko,e0,e1,e2,e3,hA,h',h6]
 ·obtain ⟨x,hx,hf,h0,hl⟩:=xko h
  simp [-getElem?_pos,Qko,e0,e1,e2,e3,hA,h0,hl,hx,over,xbY,List.map_set]) k
theorem xgv (c:xbH) (z:Int) (s:ByteArray) (a:xau) (now:Int) (hc:CB c) (hs:s.size≤33554432) (ha:xaL a≤33554432) (k):call Qkf [.agg (xbY c),.one (I z),.one (.str s),.agg (xax a),.one (I now)] k=k (xbY (xhQ c z s a now)):=xaa (fun k=>by
 have e0:=xfr c hc
 have e1:=xuu z s a now hs ha
 have e2:=xtw a ha
 have e3:=xuo c z s hc.1
 have hl1:=hc.1
 unfold xhQ
 by_cases hA:xkJ z s a now=1
 rotate_left
 ·simp [Qkf,e0,e1,hA]
 by_cases h:idx (isS z s) c.Lst<0
 ·have h':¬0≤idx (isS z s) c.Lst:=by omega
  by_cases h6:(c.Lst.length:Int)<16
  ·simp [Qkf,e0,e1,e2,e3,hA,h',h6,show c.Lst.length+1<1073741824 by omega,xbY,List.map_append]
  ·simp [Qkf,e0,e1,e2,e3,hA,h',h6]
 ·obtain ⟨x,hx,hf,h0,hl⟩:=xko h
  simp [-getElem?_pos,Qkf,e0,e1,e2,e3,hA,h0,hl,hx,over,xbY,List.map_set]) k
def xoO (l:xqe):xat:=if (l.Done&&l.Found)=true then l.Entry else xaV
theorem xgw (l:xqe) (h:xaz l.Entry≤33554432) (k):call Qkg [.agg (xeI l)] k=k (xaD (xoO l)++[.bool (l.Done&&l.Found)]):=xaa (fun k=>by
 have e:=xkG l.Entry h
 unfold xoO
 cases h1:l.Done<;>cases h2:l.Found<;>simp [Qkg,e,h1,h2,xaV]
 all_goals rfl) k
theorem xhH (l:xqe) (k):call Qkh [.agg (xeI l)] k=k [.bool (l.Done&&!l.Found)]:=xaa (fun k=>by
 cases h1:l.Done<;>cases h2:l.Found<;>simp [Qkh,h1,h2]) k
end Go.Ev
