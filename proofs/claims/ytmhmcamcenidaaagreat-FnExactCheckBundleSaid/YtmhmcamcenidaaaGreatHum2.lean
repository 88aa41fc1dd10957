/- What each function hands back, and that the law answers true, part 2. -/
import Derived.Test.YtmhmcamcenidaaaGreatHum1
set_option linter.unusedVariables false
set_option linter.unusedSimpArgs false
set_option maxHeartbeats 16000000
set_option maxRecDepth 8000
namespace Go.Ev
open Go.Proofs
theorem xdt {α:Type} {sz:Nat} {l:List α} {f:α→List PV} (h:∀x∈l,∀p∈f x,p.flat=true):xaZ (.list sz (l.map f)):=by
 intro r hr p hp
 obtain ⟨x,hx,rfl⟩:=List.mem_map.1 hr
 exact h x hx p hp
theorem xit (l:List Int) (h:l.length≤1048576) (k):call Qdh [.one (ints l)] k=k [ints l]:=xaa (fun k=>by
 have hf:xaZ (ints l):=xdt fun x _ p hp=>by simp [rI] at hp;subst hp;rfl
 have hb:0+(l.map rI).length<1073741824:=by rw [List.length_map];omega
 simp only [Qdh,xpJ,xah,Bool.false_eq_true,if_false,if_true,xig,hf,List.length_nil,hb,List.nil_append,xav,xdg,xai,true_and,Nat.zero_le]
 refine ⟨fun q=>q.1,fun q=>⟨q,fun e=>?_⟩⟩
 simp only [Bool.not_false,if_true]
 have e2:=congrArg (PV.list 1) e
 rw [←e2];exact q) k
theorem xfh (l:List ByteArray) (h:l.length≤1048576) (k):call Qdn [.one (strs l)] k=k [strs l]:=xaa (fun k=>by
 have hf:xaZ (strs l):=xdt fun x _ p hp=>by simp [rS] at hp;subst hp;rfl
 have hb:0+(l.map rS).length<1073741824:=by rw [List.length_map];omega
 simp only [Qdn,xpJ,xah,Bool.false_eq_true,if_false,if_true,xig,hf,List.length_nil,hb,List.nil_append,xav,xdg,xai,true_and,Nat.zero_le]
 refine ⟨fun q=>q.1,fun q=>⟨q,fun e=>?_⟩⟩
 simp only [Bool.not_false,if_true]
 have e2:=congrArg (PV.list 1) e
 rw [←e2];exact q) k
theorem xms (l:List xfD) (h:l.length≤1048576) (k):call Qdk [.one (.list 2 (l.map xck))] k=k [.list 2 (l.map xck)]:=xaa (fun k=>by
 have hf:xaZ (.list 2 (l.map xck)):=xdt fun x _ p hp=>by simp [xck] at hp;rcases hp with rfl | rfl<;>rfl
 have hb:0+(l.map xck).length<1073741824:=by rw [List.length_map];omega
 simp only [Qdk,xpJ,xah,Bool.false_eq_true,if_false,if_true,xig,hf,List.length_nil,hb,List.nil_append,xav,xdg,xai,true_and,Nat.zero_le]
 refine ⟨fun q=>q.1,fun q=>⟨q,fun e=>?_⟩⟩
 simp only [Bool.not_false,if_true]
 have e2:=congrArg (PV.list 2) e
 rw [←e2];exact q) k
theorem xj9 {sz:Nat} {rows:List (List PV)} (h:rows.length≤1048576) (k:PV→Prop):xbd sz (.list sz rows) (.list sz []) k=k (.list sz rows):=by
 rw [xig];simp;omega
theorem xsE (a:xbV) (h:xbf a≤1048576) (k):call Qdi [.agg (xcM a)] k=k (xcM a):=xaa (fun k=>by
 have e:=xit a.Lst h
 simp [Qdi,e]) k
theorem xsQ (a:xbV) (h:xbf a≤1048576) (k):call Qbc [.agg (xcM a)] k=k (xcM a):=xaa (fun k=>by
 have h':(a.Lst.map rI).length≤1048576:=by rw [List.length_map];exact h
 simp only [Qbc,un,cur0,xj9 h',xav,xn6,xam,xai,xao,true_and]) k
theorem xtU (a:xa7) (h:xbu a≤1048576) (k):call Qdj [.agg (xbo a)] k=k (xbo a):=xaa (fun k=>by
 unfold xbu at h
 simp [Qdj,xsE a.Keys (by omega),xsE a.Heirs (by omega),xsE a.Judge (by omega)]) k
theorem xt1 (a:xa7) (h:xbu a≤1048576) (k):call Qbd [.agg (xbo a)] k=k (xbo a):=xaa (fun k=>by
 unfold xbu at h
 simp [Qbd,xsQ a.Keys (by omega),xsQ a.Heirs (by omega),xsQ a.Judge (by omega)]) k
theorem xmp (a:xag) (h:xau a≤1048576) (k):call Qdl [.agg (xal a)] k=k (xal a):=xaa (fun k=>by
 unfold xau at h
 simp [Qdl,xtU a.Head (by omega),xms a.Sigs (by omega)]) k
theorem xlz (a:xag) (h:xau a≤1048576) (k):call Qbe [.agg (xal a)] k=k (xal a):=xaa (fun k=>by
 unfold xau at h
 have h':(a.Sigs.map xck).length≤1048576:=by rw [List.length_map];omega
 simp only [Qbe,un,cur0,xt1 a.Head (by omega),xj9 h']
 simp) k
theorem xlf {l:List xag} (h:xaq l≤1048576):l.length≤1048576∧∀x∈l,xau x≤1048576:=by
 unfold xaq at h
 refine ⟨by omega,fun x hx=>?_⟩
 have:=xbO (s:=xau) hx
 omega
theorem xsD (l:List xag) (h:xaq l≤1048576) (k):call Qdm [.one (.list 17 (l.map xal))] k=k [.list 17 (l.map xal)]:=xaa (fun k=>by
 obtain ⟨hl,hx0⟩:=xlf h
 simp only [Qdm,xaG,List.length_map,true_and,show (0:Nat)≤16777216 by omega]
 refine xbI l (fun i=>[.list 17 (l.map xal),I l.length,I i,.list 17 [],.list 17 ((l.take i).map xal)]) (by simp) (fun i x hx hi K=>?_) fun K=>?_
 ·have e:=xmp x (hx0 x (List.mem_of_getElem? hx))
  rw [xa0 hx,List.map_append]
  have hb:((l.take i).map xal).length+1<1073741824:=by simp;omega
  simp [-getElem?_pos,Qdm_r0,hx,hi,e,xap (show i<1000000000000000000 by omega)]
  omega
 ·simp [Qdm_r0]) k
theorem xsP (l:List xag) (h:xaq l≤1048576) (k):call Qbf [.one (.list 17 (l.map xal))] k=k [.list 17 (l.map xal)]:=xaa (fun k=>by
 obtain ⟨hl,hx0⟩:=xlf h
 simp only [Qbf,true_and,show (0:Nat)≤16777216 by omega]
 refine xbI l (fun i=>[.list 17 (l.map xal),I i,.list 17 [],.list 17 ((l.take i).map xal)]) (by simp) (fun i x hx hi K=>?_) fun K=>?_
 ·have e:=xlz x (hx0 x (List.mem_of_getElem? hx))
  rw [xa0 hx,List.map_append]
  simp [-getElem?_pos,Qbf_r0,hx,hi,e,xap (show i<1000000000000000000 by omega)]
  omega
 ·simp [Qbf_r0]) k
theorem xpB (a:xaS) (h:xax a≤1048576) (k):call Qdo [.agg (xbg a)] k=k (xbg a):=xaa (fun k=>by
 unfold xax at h
 simp [Qdo,xfh a.Path (by omega)]) k
theorem xsO (l:List ByteArray) (h:l.length≤1048576) (k):call Qbi [.one (strs l)] k=k [strs l]:=xaa (fun k=>by
 have hf:xaZ (strs l):=xdt fun x _ p hp=>by simp [rS] at hp;subst hp;rfl
 have hb:0+(l.map rS).length<1073741824:=by rw [List.length_map];omega
 simp only [Qbi,xig,hf,List.length_nil,hb,List.nil_append,xav,xdg,xn6,xai,true_and,Nat.zero_le]) k
theorem xpD (a:xaS) (h:xax a≤1048576) (k):call Qbj [.agg (xbg a)] k=k (xbg a):=xaa (fun k=>by
 unfold xax at h
 simp [Qbj,xsO a.Path (by omega)]) k
def inR (n a b:Int):Bool:=decide (a≤n)&&decide (n≤b)
theorem xdn (n a b:Int) (k):call Qdw [.one (I n),.one (I a),.one (I b)] k=k [.bool (inR n a b)]:=xaa (fun k=>by
 simp [Qdw,inR];split<;>simp [*]) k
theorem xeo (n a b:Int) (k):call Qbo [.one (I n),.one (I a),.one (I b)] k=k [.bool (inR n a b)]:=xaa (fun k=>by
 simp [Qbo,inR];split<;>simp [*]) k
theorem xbc {α:Type} {l:List α} {i:Nat} {x:α} (h:l[i]? = some x):x∈l:=List.mem_of_getElem? h
theorem xd0 {i:Nat} (h0:0<i) (h:i<1000000000000000000):IntKind.i64.wrap ((i:Int)-1)=((i-1:Nat):Int):=by
 rw [xcn (by omega) (by omega)];omega
theorem xqr {α:Type} {l:List α} {i:Nat} (d:α) (h:i<l.length):l[i]? = some (l.getD i d):=by
 rw [List.getD_eq_getElem?_getD,List.getElem?_eq_getElem h];rfl
def at0 (l:List Int) (i:Nat):Int:=l.getD i 0
theorem xim {l:List Int} {i:Nat} (h:i<l.length):l[i]? = some (at0 l i):=xqr 0 h
def xpK (l:List Int) (i:Nat) (x:Int):Bool:=decide (0<i)&&decide (x≤at0 l (i-1))
def xq5 (l:List Int):Bool:=!xff (xpK l) 0 l
theorem xvJ (l:List Int) (h:l.length<1073741824) (k):call Qdz [.one (ints l)] k=k [.bool (xq5 l)]:=xaa (fun k=>by
 simp [Qdz]
 have:=xg9 (R:=fun L w=>Qdz_r0 w L (k [.bool false]) fun q8 q9 q10 q11=>k [.bool true]) k false l (fun i=>[ints l,.bool false,I l.length,I i]) (xpK l) rfl (fun i x hx hi K=>?_) fun K=>?_
 ·simpa [xq5] using this
 ·by_cases h0:0<i
  ·have hp:=xim (l:=l) (show i-1<l.length by omega)
   simp [-getElem?_pos,Qdz_r0,hx,hi,h0,xd0 h0 (show i<1000000000000000000 by omega),hp,xap (show i<1000000000000000000 by omega),xpK]
  ·have h1:i=0:=by omega
   subst h1
   simp [-getElem?_pos,Qdz_r0,hi,xpK,xcn]
 ·simp [Qdz_r0]) k
def xcB (x:Int):Bool:=inR x 1 99
theorem xtT (x:Int) (k):call Qea [.one (I x)] k=k [.bool (xcB x)]:=xaa (fun k=>by simp [Qea,xdn,xcB]) k
def xcQ (a:xbV):Bool:=inR a.Lst.length 1 4&&!(a.Lst.any (fun x=>!xcB x)||!xq5 a.Lst)&&inR a.Need 1 a.Lst.length
theorem xqZ (a:xbV) (h:xbf a≤1048576) (k):call Qbp [.agg [ints a.Lst,I a.Need]] k=k [.bool (xcQ a)]:=xaa (fun k=>by
 unfold xbf at h
 simp [Qbp]
 refine (xjN (P:=k [.bool false]) (fin:=k [.bool (inR a.Lst.length 1 4&&inR a.Need 1 a.Lst.length)]) a.Lst (fun j=>[.bool false,I j,ints a.Lst,I a.Need]) (fun j y=>!xcB y||xpK a.Lst j y) rfl (fun j y hy hj K=>?_) fun K=>?_).trans ?_
 ·by_cases h0:0<j
  ·have hp:=xim (l:=a.Lst) (show j-1<a.Lst.length by omega)
   simp [-getElem?_pos,Qbp_r0,hy,hj,h0,xeo,xd0 h0 (show j<1000000000000000000 by omega),hp,xap (show j<1000000000000000000 by omega),xpK,xcB]
   cases inR y 1 99<;>simp
  ·have h1:j=0:=by omega
   subst h1
   simp [-getElem?_pos,Qbp_r0,hy,hj,xpK,xeo,xcB,xcn]
 ·simp [Qbp_r0,xeo]
  cases inR (a.Lst.length:Int) 1 4<;>simp
 ·rw [xpp,xe0]
  unfold xcQ xq5
  generalize a.Lst.any (fun x=>!xcB x)=b1
  generalize xff (xpK a.Lst) 0 a.Lst=b2
  cases b1<;>cases b2<;>simp) k
theorem xnc {l:List Int} (h:xq5 l=true):∀{j i:Nat} {x y:Int},i<j→l[i]? = some x→l[j]? = some y→x<y:=by
 have h1:xff (xpK l) 0 l=false:=by unfold xq5 at h;simpa using h
 rw [xeZ] at h1
 have step:∀{j:Nat} {x y:Int},l[j]? = some x→l[j+1]? = some y→x<y:=by
  intro j x y hx hy
  have:=h1 (j+1) y hy
  simp [xpK] at this
  have h2:at0 l j=x:=by
   have:=xim (xaL hx)
   rw [hx] at this;injection this with this;exact this.symm
  rw [h2] at this
  omega
 intro j
 induction j with
 | zero=>intro i x y hij;omega
 | succ j ih =>
  intro i x y hij hx hy
  have hj:j<l.length:=by have:=xaL hy;omega
  have hz:=List.getElem?_eq_getElem hj
  by_cases h2:i=j
  ·subst h2;exact step hx hy
  ·have a1:=ih (i:=i) (by omega) hx hz
   have a2:=step hz hy
   omega
theorem xpm {l:List Int} (h:xq5 l=true) {x y:Int} (hx:l[0]? = some x) (hy:l[l.length-1]? = some y):(l.any fun z=>!xcB z)=(!(xcB x&&xcB y)):=by
 have hlast:∀{z:Int} {i:Nat},l[i]? = some z→x≤z∧z≤y:=by
  intro z i hz
  have hi:=xaL hz
  constructor
  ·by_cases h0:i=0
   ·subst h0;rw [hx] at hz;injection hz with hz;omega
   ·have:=xnc h (show 0<i by omega) hx hz;omega
  ·by_cases h0:i=l.length-1
   ·subst h0;rw [hy] at hz;injection hz with hz;omega
   ·have:=xnc h (show i<l.length-1 by omega) hz hy;omega
 cases hb:(xcB x&&xcB y) with
 | true =>
  simp only [Bool.and_eq_true,xcB,inR,decide_eq_true_eq] at hb
  rw [Bool.not_true,List.any_eq_false]
  intro z hz
  obtain ⟨i,hi⟩:=List.mem_iff_getElem?.1 hz
  have:=hlast hi
  simp [xcB,inR];omega
 | false =>
  rw [Bool.not_false,List.any_eq_true]
  by_cases hk:xcB x=true
  ·have hk2:xcB y=false:=by rw [hk] at hb;simpa using hb
   exact ⟨y,List.mem_of_getElem? hy,by simp [hk2]⟩
  ·exact ⟨x,List.mem_of_getElem? hx,by simpa using hk⟩
theorem xqU (a:xbV) (h:xbf a≤1048576) (k):call Qeb [.agg [ints a.Lst,I a.Need]] k=k [.bool (xcQ a)]:=xaa (fun k=>by
 unfold xbf at h
 simp [Qeb,xdn,xcQ]
 cases h1:inR a.Lst.length 1 4 with
 | false=>simp
 | true =>
  have h2:1≤a.Lst.length:=by unfold inR at h1;simp at h1;omega
  simp [xvJ a.Lst (by omega)]
  cases h3:xq5 a.Lst with
  | false=>simp
  | true =>
   have hx:=xim (l:=a.Lst) (show 0<a.Lst.length by omega)
   have hy:=xim (l:=a.Lst) (show a.Lst.length-1<a.Lst.length by omega)
   have hr:=xpm h3 hx hy
   rw [hr]
   simp [-getElem?_pos,hx,hy,xtT,xd0 (show 0<a.Lst.length by omega) (show a.Lst.length<1000000000000000000 by omega)]
   cases xcB (at0 a.Lst 0)<;>cases xcB (at0 a.Lst (a.Lst.length-1))<;>simp) k
deriving instance DecidableEq for xbV,xa7,xfD,xag,xcT,xaS,xce,xkh,xat,xq2,xaJ,xpG,xrr,xt7,xbz,xbE,xt6
theorem xvs (l:List xag) (p:xag) (h:l.length≤1048576) (hp:l[l.length-1]? = some p) (k):call Qfk [.one (.list 17 (l.map xal))] k=k (xbo p.Head):=xaa (fun k=>by
 have h0:=xaL hp
 simp [-getElem?_pos,Qfk,xd0 (show 0<l.length by omega) (show l.length<1000000000000000000 by omega),hp]) k
theorem xeW {l:List xaS} (h:xgk l≤1048576):l.length≤1048576∧∀x∈l,xax x≤1048576:=by
 unfold xgk at h
 refine ⟨by omega,fun x hx=>?_⟩
 have:=xbO (s:=xax) hx
 omega
theorem xsC (a:xce) (h:xba a≤1048576) (k):call Qdr [.agg (xcC a)] k=k (xcC a):=xaa (fun k=>by
 unfold xba at h
 simp [Qdr,xit a.Path h]) k
theorem xsN (a:xce) (h:xba a≤1048576) (k):call Qbk [.agg (xcC a)] k=k (xcC a):=xaa (fun k=>by
 unfold xba at h
 have h':(a.Path.map rI).length≤1048576:=by rw [List.length_map];exact h
 simp only [Qbk,un,cur0,xj9 h',xav,xn6,xam,xai,xao,true_and]) k
theorem xvL (a:xkh) (h:xgI a≤1048576) (k):call Qds [.agg (xlb a)] k=k (xlb a):=xaa (fun k=>by
 unfold xgI at h
 simp [Qds,xpB a.Before (by omega),xpB a.After (by omega),xsC a.Left (by omega),xsC a.Right (by omega)]) k
theorem xv6 (a:xkh) (h:xgI a≤1048576) (k):call Qbl [.agg (xlb a)] k=k (xlb a):=xaa (fun k=>by
 unfold xgI at h
 simp [Qbl,xpD a.Before (by omega),xpD a.After (by omega),xsN a.Left (by omega),xsN a.Right (by omega)]) k
theorem xsB (a:xat) (h:xaK a≤1048576) (k):call Qdt [.agg (xaU a)] k=k (xaU a):=xaa (fun k=>by
 unfold xaK at h
 simp [Qdt,xsD a.Chain (by omega),xpB a.Entry (by omega),xsC a.Proof (by omega),xvL a.Gap (by omega)]) k
theorem xsM (a:xat) (h:xaK a≤1048576) (k):call Qbm [.agg (xaU a)] k=k (xaU a):=xaa (fun k=>by
 unfold xaK at h
 simp [Qbm,xsP a.Chain (by omega),xpD a.Entry (by omega),xsN a.Proof (by omega),xv6 a.Gap (by omega)]) k
def xtd (n m:Int):Int:=if inR m 1 1000000000000=true then (wr (n.tmod m+m)).tmod m else 0
theorem xvI (n m:Int) (k):call Qeh [.one (I n),.one (I m)] k=k [I (xtd n m)]:=xaa (fun k=>by
 simp [Qeh,xtd,xdn]
 cases h:inR m 1 1000000000000
 ·simp
 ·have:m≠0:=by simp [inR] at h;omega
  simp [this]) k
theorem xv5 (n m:Int) (k):call Qbt [.one (I n),.one (I m)] k=k [I (xtd n m)]:=xaa (fun k=>by
 simp [Qbt,xtd,xeo]
 cases h:inR m 1 1000000000000
 ·simp
 ·have:m≠0:=by simp [inR] at h;omega
  simp [this]) k
def xfV (acc v:Int):Int:=(wr (wr (wr (acc*1000003)+xtd v 2147483647)+13)).tmod 2147483647
def xdo (l:List Int):Int:=l.foldl xfV 11
theorem xmo (l:List Int) (hl:l.length<1000000000000000000) (k):call Qei [.one (ints l)] k=k [I (xdo l)]:=xaa (fun k=>by
 simp [Qei]
 refine xbI l (fun i=>[I 0,I ((l.take i).foldl xfV 11),ints l,I l.length,I i]) rfl (fun i x hx hi K=>?_) fun K=>?_
 ·simp [-getElem?_pos,Qei_r0,hi,hx,xvI,xa0 hx,xap (show i<1000000000000000000 by omega),xfV]
 ·simp [Qei_r0,xdo]) k
theorem xmq (l:List Int) (hl:l.length<1000000000000000000) (k):call Qbu [.one (ints l)] k=k [I (xdo l)]:=xaa (fun k=>by
 simp [Qbu]
 refine xbI l (fun i=>[ints l,I 0,I ((l.take i).foldl xfV 11),I i]) rfl (fun i x hx hi K=>?_) fun K=>?_
 ·simp [-getElem?_pos,Qbu_r0,hi,hx,xv5,xa0 hx,xap (show i<1000000000000000000 by omega),xfV]
 ·simp [Qbu_r0,xdo]) k
def b2i (b:UInt8):Int:=b.toNat
def xs0 (s:List UInt8):List Int:=(s.length:Int)::s.map b2i
theorem xvp (s:List UInt8) (hl:s.length<1000000000) (k):call Qfv [.one (byts s)] k=k [ints (xs0 s)]:=xaa (fun k=>by
 simp [Qfv]
 refine xbI s (fun i=>[byts s,I s.length,I i,.list 1 [],ints ((s.length:Int)::(s.take i).map b2i)]) (by simp) (fun i x hx hi K=>?_) fun K=>?_
 ·have h2:min i s.length=i:=by omega
  simp [-getElem?_pos,Qfv_r0,hi,hx,xa0 hx,xap (show i<1000000000000000000 by omega),b2i,h2]
  rw [and_iff_right (by omega)]
  simp [ints,rI,Function.comp_def]
 ·simp [Qfv_r0,xs0]) k
theorem xvR (s:List UInt8) (hl:s.length<1000000000) (k):call Qcu [.one (byts s)] k=k [ints (xs0 s)]:=xaa (fun k=>by
 simp [Qcu]
 refine xbI s (fun i=>[byts s,I i,.list 1 [],ints ((s.length:Int)::(s.take i).map b2i)]) (by simp) (fun i x hx hi K=>?_) fun K=>?_
 ·have h2:min i s.length=i:=by omega
  simp [-getElem?_pos,Qcu_r0,hi,hx,xa0 hx,xap (show i<1000000000000000000 by omega),b2i,h2]
  rw [and_iff_right (by omega)]
  simp [ints,rI,Function.comp_def]
 ·simp [Qcu_r0,xs0]) k
def xbJ (s:ByteArray):List Int:=xs0 s.data.toList
theorem xtQ (s:ByteArray) (hl:s.size<1000000000) (k):call Qfw [.one (.str s)] k=k [ints (xbJ s)]:=xaa (fun k=>by
 simp [Qfw,xvp _ (show s.data.toList.length<1000000000 by simpa using hl),xbJ]) k
theorem xtY (s:ByteArray) (hl:s.size<1000000000) (k):call Qcv [.one (.str s)] k=k [ints (xbJ s)]:=xaa (fun k=>by
 simp [Qcv,xvR _ (show s.data.toList.length<1000000000 by simpa using hl),xbJ]) k
theorem xb0 (s:ByteArray):(xbJ s).length=s.size+1:=by simp [xbJ,xs0]
theorem xdz {α:Type} (f:α→Nat):∀(l:List α) (i:Nat) (x:α),l[i]? = some x→xbn f (l.take (i+1))=xbn f (l.take i)+f x
 | [],i,x,h=>by simp at h
 | a::l,0,x,h=>by simp at h;subst h;simp [xbn]
 | a::l,i+1,x,h=>by
  have:=xdz f l i x (by simpa using h)
  simp only [List.take_succ_cons,xbn,this];omega
theorem xcX {α:Type} (f:α→Nat):∀(l:List α) (i:Nat),xbn f (l.take i)≤xbn f l
 | [],i=>by simp
 | a::l,0=>by simp [xbn]
 | a::l,i+1=>by
  have:=xcX f l i
  simp only [List.take_succ_cons,xbn];omega
theorem xej {α:Type}:∀(ls:List (List α)),ls.flatten.length=xbn List.length ls
 | []=>rfl
 | l::ls=>by simp [xbn,xej ls]
theorem xvF (n:Int) (h0:0≤n) (h:n<1073741824) (k):call Qel [.nil 3 1,.one (I n)] k=k [ints []]:=xaa (fun k=>by
 have w0:IntKind.i64.wrap 0=0:=xcn (by omega) (by omega)
 have w1:IntKind.i64.wrap n=n:=xcn (by omega) (by omega)
 simp [Qel,w0,w1,show ¬n<0 by omega,xg6,xgW,xf8]
 by_cases hn:0<n
 ·simp [hn,h,h0,show n≤1073741823 by omega,show 0≤max n 0 by omega,ints]
 ·simp [hn,ints]) k
theorem xcj (l:List Int):xaZ (ints l):=by
 intro r hr p hp
 obtain ⟨x,_,rfl⟩:=List.mem_map.1 hr
 simp [rI] at hp
 subst hp;rfl
theorem xtS (ls:List (List Int)) (h:ls.length+xbn List.length ls<100000000) (k):call Qem [.one (.list 1 (ls.map fun l=>[ints l]))] k=k [ints ls.flatten]:=xaa (fun k=>by
 simp only [Qem,xaG,List.length_map,xaf]
 let L:PV:=.list 1 (ls.map fun l=>[ints l])
 refine xbI (fin:=k [ints ls.flatten]) ls (fun i=>[L,I ((xbn List.length (ls.take i):Nat):Int),L,I ls.length,I i,.list 1 []]) (by simp [xbn,L]) (fun i x hx hi K=>?_) (fun K=>?_)
 ·have e1:=xdz List.length ls i x hx
  have e2:=xcX List.length ls (i+1)
  have w1:IntKind.i64.wrap (((xbn List.length (ls.take i):Nat):Int)+(x.length:Int))=((xbn List.length (ls.take (i+1)):Nat):Int):=by
   rw [e1];rw [xcn (by omega) (by omega)];omega
  simp [-getElem?_pos,Qem_r0,hx,hi,L,w1,xap (show i<1000000000000000000 by omega),show ¬(((xbn List.length (ls.take (i+1)):Nat):Int)<0) by omega]
 ·simp only [Qem_r0,un,cur0,xan,xah,xaG,L,List.take_length]
  simp [xvF ((xbn List.length ls:Nat):Int) (by omega) (by omega)]
  refine xbI (fin:=k [ints ls.flatten]) ls (fun i=>[L,I ((xbn List.length ls:Nat):Int),L,I ls.length,I ls.length,L,I ls.length,I i,ints (ls.take i).flatten,.list 1 []]) (by simp [L]) (fun i x hx hi K=>?_) fun K=>?_
  ·have e1:=xdz List.length ls i x hx
   have e2:=xcX List.length ls (i+1)
   have e3:(ls.take (i+1)).flatten=(ls.take i).flatten++x:=by
    rw [List.take_add_one,hx];simp
   have e4:=xej (ls.take i)
   have e5:(ls.take i).flatten.length+x.length<1073741824:=by omega
   show _↔K [L,I ((xbn List.length ls:Nat):Int),L,I ls.length,I ls.length,L,I ls.length,I ((i+1:Nat):Int),ints (ls.take (i+1)).flatten,.list 1 []]
   rw [e3]
   generalize (ls.take i).flatten=A at e5
   rw [show ints (A++x)=PV.list 1 (A.map rI++x.map rI) by simp [ints]]
   simp [-getElem?_pos,Qem_r1,hx,hi,L,xcj,xbd,xap (show i<1000000000000000000 by omega),e5]
  ·simp [Qem_r1,L]) k
def xaY (a:xbV):List Int:=a.Need::(a.Lst.length:Int)::a.Lst
def xqD (b:Bool):Int:=if b=true then 1 else 0
def xaW (a:xa7):List Int :=
 [a.Zone,a.Epoch,a.Kind,a.Time,a.Until,a.Count,a.Root,a.Prev]++(xaY a.Keys++(xaY a.Heirs++([a.Wait]++(xaY a.Judge++[xqD a.Frozen]))))
theorem xbL (n:Int):xae [.pv (I 0)] [.pv (I n)]:=by intro x hx;simp at hx;subst hx;rfl
theorem xqY (a:xbV) (h:xbf a≤1048576) (k):call Qbs [.agg (xcM a)] k=k [ints (xaY a)]:=xaa (fun k=>by
 unfold xbf at h
 simp [Qbs,xaY,xcj,xbL,xbd,show 2+a.Lst.length<1073741824 by omega]
 exact Iff.rfl) k
theorem xqT (a:xbV) (h:xbf a≤1048576) (k):call Qeg [.agg (xcM a)] k=k [ints (xaY a)]:=xaa (fun k=>by
 unfold xbf at h
 simp [Qeg,xaY,xcj,xbL,xbd,show 2+a.Lst.length<1073741824 by omega]
 exact Iff.rfl) k
theorem xvG (b:Bool) (k):call Qek [.one (.bool b)] k=k [I (xqD b)]:=xaa (fun k=>by
 cases b<;>simp [Qek,xqD]) k
theorem xbW (a:xbV):(xaY a).length=2+a.Lst.length:=by simp [xaY];omega
theorem xrf (i:Nat):xae [.nil 3 1] [.own i]:=by intro x hx;simp at hx;subst hx;trivial
theorem xqS (a:xa7) (h:xbu a≤1048576) (k):call Qen [.agg (xbo a)] k=k [ints (xaW a)]:=xaa (fun k=>by
 unfold xbu at h
 have k1:=xqT a.Keys (by omega)
 have k2:=xqT a.Heirs (by omega)
 have k3:=xqT a.Judge (by omega)
 have l1:=xbW a.Keys
 have l2:=xbW a.Heirs
 have l3:=xbW a.Judge
 unfold xbf at h
 have c:=xtS [[a.Zone,a.Epoch,a.Kind,a.Time,a.Until,a.Count,a.Root,a.Prev],xaY a.Keys,xaY a.Heirs,[a.Wait],xaY a.Judge,[xqD a.Frozen]] (by
  simp only [xbn,List.length_cons,List.length_nil,l1,l2,l3];omega) (fun o=>k [atP o 0])
 simp only [Qen,un,cur0,k1,k2,k3,xvG,xbL,xrf,xaf,true_and,and_true,xav,xdg,show (1:Nat)≤16777216 by omega,show (2:Nat)≤16777216 by omega,show (6:Nat)≤16777216 by omega,show (8:Nat)≤16777216 by omega,xai]
 exact iff_of_eq c) k
theorem xpC (a:xa7) (h:xbu a≤1048576) (k):call Qbw [.agg (xbo a)] k=k [ints (xaW a)]:=xaa (fun k=>by
 unfold xbu at h
 have k1:=xqY a.Keys (by omega)
 have k2:=xqY a.Heirs (by omega)
 have k3:=xqY a.Judge (by omega)
 have l1:=xbW a.Keys
 have l2:=xbW a.Heirs
 have l3:=xbW a.Judge
 unfold xbf at h
 simp only [Qbw,un,cur0,k1,k2,k3,xbL,xaf,true_and,and_true,xav,show (8:Nat)≤16777216 by omega,xai]
 have e:ints (xaW a)=PV.list 1 (([[I a.Zone],[I a.Epoch],[I a.Kind],[I a.Time],[I a.Until],[I a.Count],[I a.Root],[I a.Prev]]++((xaY a.Keys).map rI++((xaY a.Heirs).map rI++([[I a.Wait]]++((xaY a.Judge).map rI++[[I (xqD a.Frozen)]])))))):=by
  simp [ints,xaW]
 rw [e]
 cases hf:a.Frozen<;>simp [xbd,l1,l2,l3,xbL,xqD]
 all_goals exact ⟨fun h=>h.2.2.2.2.2,fun h=>⟨by omega,by omega,by omega,by omega,by omega,h⟩⟩) k
theorem xi9 {α:Type} [DecidableEq α] {eq:α→α→Bool} (h:∀x y,eq x y=decide (x=y)):∀(l m:List α),xdk eq l m=decide (l=m)
 | [],[]=>by simp [xdk]
 | [],y::m=>by simp [xdk]
 | x::l,[]=>by simp [xdk]
 | x::l,y::m=>by rw [xdk,xi9 h l m,h];simp [Bool.decide_and]
abbrev eqD {α:Type} [DecidableEq α] (x y:α):Bool:=decide (x=y)
theorem xeR {α:Type} [DecidableEq α] (l m:List α):xdk eqD l m=decide (l=m):=xi9 (fun _ _=>rfl) l m
theorem xja {α:Type} [DecidableEq α] {l m:List α} (h:¬l.length=m.length):decide (l=m)=false:=by simp;intro e;subst e;exact h rfl
theorem xsy (l m:List Int) (h:l.length<1073741824) (k):call Qfb [.one (ints l),.one (ints m)] k=k [.bool (decide (l=m))]:=xaa (fun k=>by
 simp [Qfb]
 by_cases hl:l.length=m.length
 ·rw [←xeR]
  simp [hl]
  refine xgl k l m (fun i=>[ints l,ints m,.bool false,I m.length,I i]) eqD rfl hl (fun i x y hx hy hi hj K=>?_) fun K=>?_
  ·simp [-getElem?_pos,Qfb_r0,hx,hy,hj,xap (show i<1000000000000000000 by omega)]
  ·simp [Qfb_r0,hl]
 ·simp [show ¬(l.length:Int)=m.length by omega,xja hl]) k
theorem xsI (l m:List Int) (h:l.length<1073741824) (k):call Qcf [.one (ints l),.one (ints m)] k=k [.bool (decide (l=m))]:=xaa (fun k=>by
 simp [Qcf]
 by_cases hl:l.length=m.length
 ·rw [←xeR]
  simp [hl]
  refine xgl k l m (fun i=>[ints l,ints m,.bool false,I i]) eqD rfl hl (fun i x y hx hy hi hj K=>?_) fun K=>?_
  ·simp [-getElem?_pos,Qcf_r0,hx,hy,hi,xap (show i<1000000000000000000 by omega)]
  ·simp [Qcf_r0]
 ·simp [show ¬(l.length:Int)=m.length by omega,xja hl]) k
theorem xmn (a b:xbV) (h:xbf a≤1048576) (k):call Qfc [.agg (xcM a),.agg (xcM b)] k=k [.bool (decide (a=b))]:=xaa (fun k=>by
 unfold xbf at h
 obtain ⟨l,n⟩:=a
 obtain ⟨m,q⟩:=b
 simp [Qfc,xsy l m (by simp at h;omega)]
 by_cases hl:l=m<;>by_cases hn:n=q<;>simp [hl,hn,show (n==q)=decide (n=q) from rfl]) k
theorem xc3 (a:xa7):(xaW a).length=16+xbu a:=by simp [xaW,xaY,xbu,xbf];omega
theorem xb5 {b c:Bool} {P:Prop} {k:List PV→Prop} (h:b=true→(P↔k [.bool c])):(if b=true then P else k [.bool false])↔k [.bool (b&&c)]:=by
 cases b
 ·simp
 ·simpa using h rfl
theorem xho {b c:Bool} {P:Prop} {k:List PV→Prop} (h:b=true→(P↔k [.bool c])):(if (!b)=true then k [.bool false] else P)↔k [.bool (b&&c)]:=by
 cases b
 ·simp
 ·simpa using h rfl
def sNo (a:xbV):Bool:=decide (a.Need=0)&&decide (a.Lst.length=0)
theorem xnV (a:xbV) (k):call Qec [.agg (xcM a)] k=k [.bool (sNo a)]:=xaa (fun k=>by
 have e:((a.Lst.length:Int)==0)=decide (a.Lst.length=0):=by
  by_cases h:a.Lst.length=0
  ·rw [h];rfl
  ·rw [decide_eq_false h];exact beq_eq_false_iff_ne.2 (by omega)
 simp only [Qec,un,cur0,xaD,xaG,List.length_map,e,sNo,xah,xav,xam,xai,xar,true_and,and_true]
 by_cases h:a.Need=0<;>simp [h]) k
theorem xsL (a:xbV) (k):call Qbq [.agg (xcM a)] k=k [.bool (sNo a)]:=xaa (fun k=>by
 have e:((a.Lst.length:Int)==0)=decide (a.Lst.length=0):=by
  by_cases h:a.Lst.length=0
  ·rw [h];rfl
  ·rw [decide_eq_false h];exact beq_eq_false_iff_ne.2 (by omega)
 simp only [Qbq,un,cur0,xaD,xaG,List.length_map,e,sNo,xah,xav,xam,xai,xar,true_and,and_true]
 by_cases h:a.Need=0<;>simp [h]) k
theorem xmz {a:xbV} (h:sNo a=true):xcQ a=false:=by
 unfold sNo at h
 simp only [Bool.and_eq_true,decide_eq_true_eq] at h
 unfold xcQ inR
 simp [h.2]
def xkr (a:xbV):Bool:=sNo a||xcQ a
def xmB (a:xa7):Bool:=xcQ a.Judge||(sNo a.Judge&&!a.Frozen)
def xrH (a:xa7):Bool:=if sNo a.Heirs=true then decide (a.Wait=0)&&xmB a else xcQ a.Heirs&&(inR a.Wait 1 500&&xmB a)
def xcu (a:xa7):Bool :=
 inR a.Zone 0 2147483646&&(inR a.Root 0 2147483646&&(inR a.Prev 0 2147483646&&(inR a.Epoch 0 200&&(inR a.Kind 1 3&&(inR a.Time 0 100000&&(inR a.Until a.Time 100000&&(decide (a.Until-a.Time≤200) &&
 (inR a.Count 0 12&&(xcQ a.Keys&&xrH a)))))))))
theorem xc5 {a:xa7} (h:xbu a≤1048576):xbf a.Keys≤1048576∧xbf a.Heirs≤1048576∧xbf a.Judge≤1048576:=by unfold xbu at h;omega
theorem xsK (a:xa7) (h:xbu a≤1048576) (k):call Qbr [.agg (xbo a)] k=k [.bool (xcu a)]:=xaa (fun k=>by
 obtain ⟨h1,h2,h3⟩:=xc5 h
 have e1:=xqZ a.Keys h1
 have e2:=xqZ a.Heirs h2
 have e3:=xqZ a.Judge h3
 simp only [Qbr,un,cur0,xeo,e1,e2,e3,xsL,xa8,xaf,xah,xav,xam,xai,xar,true_and,and_true,xbP,xb3]
 refine xho fun _=>xho fun _=>xho fun _=>xho fun _=>xho fun _=>xho fun ht=>xho fun hu=>?_
 have hw:IntKind.i64.wrap (a.Until-a.Time)=a.Until-a.Time:=by
  simp only [inR,Bool.and_eq_true,decide_eq_true_eq] at ht hu
  exact xcn (by omega) (by omega)
 rw [hw,show decide (200<a.Until-a.Time)=!decide (a.Until-a.Time≤200) by by_cases h:a.Until-a.Time≤200<;>simp [h]<;>omega]
 refine xho fun _=>xho fun _=>xho fun _=>?_
 unfold xrH xmB
 cases sNo a.Heirs<;>cases xcQ a.Heirs<;>cases inR a.Wait 1 500<;>cases xcQ a.Judge<;>cases sNo a.Judge<;>cases a.Frozen<;>by_cases hz:a.Wait=0<;>simp [hz]) k
theorem xrT:∀(nh kh nj kj wt w0 fr:Bool) (h1:nh=true→kh=false) (h2:nj=true→kj=false),((nh||kh)&&((nj||kj)&&((if nh=true then w0 else wt)&&!(fr&&nj))))=(if nh=true then w0&&(kj||(nj&&!fr)) else kh&&(wt&&(kj||(nj&&!fr)))):=by decide
theorem xsA (a:xa7) (h:xbu a≤1048576) (k):call Qef [.agg (xbo a)] k=k [.bool (xcu a)]:=xaa (fun k=>by
 obtain ⟨h1,h2,h3⟩:=xc5 h
 have e1:=xqU a.Keys h1
 have e2:=xqU a.Heirs h2
 have e3:=xqU a.Judge h3
 have d:∀x k,call Qdx [.one (I x)] k=k [.bool (inR x 0 2147483646)]:=fun x=>xaa (fun k=>by simp [Qdx,xdn])
 have m2:∀k,call Qed [.agg (xcM a.Heirs)] k=k [.bool (xkr a.Heirs)]:=xaa (fun k=>by
  simp [Qed,xnV,e2,xkr];cases sNo a.Heirs<;>simp)
 have m3:∀k,call Qed [.agg (xcM a.Judge)] k=k [.bool (xkr a.Judge)]:=xaa (fun k=>by
  simp [Qed,xnV,e3,xkr];cases sNo a.Judge<;>simp)
 have m4:∀k,call Qee [.one (I a.Wait),.agg (xcM a.Heirs)] k=k [.bool (if sNo a.Heirs=true then decide (a.Wait=0) else inR a.Wait 1 500)]:=xaa (fun k=>by
  simp [Qee,xnV,xdn];cases sNo a.Heirs<;>simp
  by_cases hz:a.Wait=0
  ·simp [hz]
  ·rw [show (a.Wait==0)=false from beq_eq_false_iff_ne.2 hz];simp [hz])
 have m5:∀k,call Qdy [.agg (xbo a)] k=k [.bool (inR a.Time 0 100000&&(inR a.Until a.Time 100000&&decide (a.Until-a.Time≤200)))]:=xaa (fun k=>by
  simp only [Qdy,un,cur0,xb4,xhg,xbP,xah,xav,xam,xai,xar,true_and,and_true]
  by_cases c1:0≤a.Time
  ·by_cases c2:a.Time≤a.Until
   ·by_cases c3:a.Until≤100000
    ·rw [xcn (show -9223372036854775808≤a.Until-a.Time by omega) (by omega)]
     simp [c1,c2,c3,inR,show a.Time≤100000 by omega]
    ·simp [c1,c2,c3,inR]
   ·simp [c1,c2,inR]
  ·simp [c1,inR])
 simp only [Qef,un,cur0,d,xdn,e1,m2,m3,m4,m5,xnV,xa8,xaf,xah,xav,xam,xai,xar,true_and,and_true]
 have key:∀z r p e q sp c ks mh mj wt no fr:Bool,(if z=true then if r=true then if p=true then if e=true then if q=true then if sp=true then if c=true then if ks=true then if mh=true then if mj=true then if wt=true then
  if fr=true then k [.bool !no] else k [.bool true] else k [.bool false] else k [.bool false] else k [.bool false] else k [.bool false] else k [.bool false] else k [.bool false] else k [.bool false] else k [.bool false] else k [.bool false] else k [.bool false] else k [.bool false]) ↔
  k [.bool (z&&(r&&(p&&(e&&(q&&(sp&&(c&&(ks&&(mh&&(mj&&(wt&&!(fr&&no))))))))))))]:=by
  intro z r p e q sp c ks mh mj wt no fr
  refine xb5 fun _=>xb5 fun _=>xb5 fun _=>xb5 fun _=>xb5 fun _=>xb5 fun _=>xb5 fun _=>xb5 fun _=>xb5 fun _=>xb5 fun _=>xb5 fun _=>?_
  cases fr<;>simp
 refine (key _ _ _ _ _ _ _ _ _ _ _ _ _).trans ?_
 apply iff_of_eq
 congr 3
 unfold xcu xrH xmB xkr
 simp only [Bool.and_assoc]
 rw [xrT _ _ _ _ _ _ _ (@xmz a.Heirs) (@xmz a.Judge)]) k
theorem xdZ (a b:Int):(a==b)=decide (a=b):=by
 by_cases h:a=b
 ·subst h;simp
 ·rw [decide_eq_false h];exact beq_eq_false_iff_ne.2 h
def sKH (key:Int) (m:List Int):Int:=xdo (key::(m++[key]))
theorem xvE (key:Int) (m:List Int) (h:m.length<90000000) (k):call Qeo [.one (I key),.one (ints m)] k=k [I (sKH key m)]:=xaa (fun k=>by
 have e:∀k,call Qem [.one (.list 1 [[.list 1 [[I key]]],[ints m],[.list 1 [[I key]]]])] k=k [ints (key::(m++[key]))]:=fun k=>by
  have:=xtS [[key],m,[key]] (by simp [xbn];omega) k
  simpa [ints] using this
 have e2:=xmo (key::(m++[key])) (by simp;omega)
 simp only [Qeo,un,cur0,xbL,xrf,true_and,e,xaf,e2,xav,xam,xai,xao]
 simp [sKH]) k
theorem xv3 (key:Int) (m:List Int) (h:m.length<90000000) (k):call Qbx [.one (I key),.one (ints m)] k=k [I (sKH key m)]:=xaa (fun k=>by
 have e2:=xmq (key::(m++[key])) (by simp;omega)
 have e3:(PV.list 1 ([I key]::(m.map rI++[[I key]])))=ints (key::(m++[key])):=by simp [ints]
 simp [Qbx,xbL,xcj,xbd,show 1+m.length<1073741824 by omega]
 rw [e3,e2]
 simp [sKH]
 try (intros;omega)) k
def xrI (key:Int) (m:List Int):Int:=sKH key (223::m)
theorem xvD (key:Int) (m:List Int) (h:m.length<80000000) (k):call Qep [.one (I key),.one (ints m)] k=k [I (xrI key m)]:=xaa (fun k=>by
 have e2:=xvE key (223::m) (by simp;omega)
 have e3:PV.list 1 ([I 223]::m.map rI)=ints (223::m):=by simp [ints]
 simp [Qep,xbL,xcj,xbd,show 1+m.length<1073741824 by omega]
 rw [e3,e2]
 simp [xrI]
 try (intros;omega)) k
theorem xv2 (key:Int) (m:List Int) (h:m.length<80000000) (k):call Qby [.one (I key),.one (ints m)] k=k [I (xrI key m)]:=xaa (fun k=>by
 have e2:=xv3 key (223::m) (by simp;omega)
 have e3:PV.list 1 ([I 223]::m.map rI)=ints (223::m):=by simp [ints]
 simp [Qby,xbL,xcj,xbd,show 1+m.length<1073741824 by omega]
 rw [e3,e2]
 simp [xrI]
 try (intros;omega)) k
def xhz (a:xa7):Int:=xdo (233::xaW a)
theorem xvz (a:xa7) (h:xbu a≤1048576) (k):call Qey [.agg (xbo a)] k=k [I (xhz a)]:=xaa (fun k=>by
 have hl:=xc3 a
 have e1:=xqS a h
 have e2:=xmo (233::xaW a) (by simp;omega)
 have e3:PV.list 1 ([I 233]::(xaW a).map rI)=ints (233::xaW a):=by simp [ints]
 simp [Qey,xbL,e1,xbd,show 1+(xaW a).length<1073741824 by omega]
 rw [e3,e2]
 simp [xhz]
 try (intros;omega)) k
theorem xvZ (a:xa7) (h:xbu a≤1048576) (k):call Qcd [.agg (xbo a)] k=k [I (xhz a)]:=xaa (fun k=>by
 have hl:=xc3 a
 have e1:=xpC a h
 have e2:=xmq (233::xaW a) (by simp;omega)
 have e3:PV.list 1 ([I 233]::(xaW a).map rI)=ints (233::xaW a):=by simp [ints]
 simp [Qcd,xbL,e1,xbd,show 1+(xaW a).length<1073741824 by omega]
 rw [e3,e2]
 simp [xhz]
 try (intros;omega)) k
def xhv (a:xbV) (salt:Int):Int:=xdo (239::salt::xaY a)
theorem xvH (a:xbV) (salt:Int) (h:xbf a≤1048576) (k):call Qej [.agg (xcM a),.one (I salt)] k=k [I (xhv a salt)]:=xaa (fun k=>by
 have hl:=xbW a
 have h':=h
 unfold xbf at h'
 have e1:=xqT a h
 have e2:=xmo (239::salt::xaY a) (by simp;omega)
 have e3:PV.list 1 ([I 239]::[I salt]::(xaY a).map rI)=ints (239::salt::xaY a):=by simp [ints]
 simp [Qej,xbL,e1,xbd,show 2+(xaY a).length<1073741824 by omega]
 rw [e3,e2]
 simp [xhv]
 try (intros;omega)) k
theorem xv4 (a:xbV) (salt:Int) (h:xbf a≤1048576) (k):call Qbv [.agg (xcM a),.one (I salt)] k=k [I (xhv a salt)]:=xaa (fun k=>by
 have hl:=xbW a
 have h':=h
 unfold xbf at h'
 have e1:=xqY a h
 have e2:=xmq (239::salt::xaY a) (by simp;omega)
 have e3:PV.list 1 ([I 239]::[I salt]::(xaY a).map rI)=ints (239::salt::xaY a):=by simp [ints]
 simp [Qbv,xbL,e1,xbd,show 2+(xaY a).length<1073741824 by omega]
 rw [e3,e2]
 simp [xhv]
 try (intros;omega)) k
def xoa (m:List Int) (s:xfD):Bool:=xcB s.Key&&decide (s.Tag=xrI s.Key m)
theorem xvC (s:xfD) (m:List Int) (h:m.length<80000000) (k):call Qeq [.agg (xck s),.one (ints m)] k=k [.bool (xoa m s)]:=xaa (fun k=>by
 have e:=xvD s.Key m h
 simp only [Qeq,un,cur0,xtT,e,xaf,xaD,xah,xav,xam,xai,xar,true_and,and_true]
 exact xb5 (c:=decide (s.Tag=xrI s.Key m)) fun _=>by rw [xdZ]) k
theorem xv1 (s:xfD) (m:List Int) (h:m.length<80000000) (k):call Qbz [.agg (xck s),.one (ints m)] k=k [.bool (xoa m s)]:=xaa (fun k=>by
 have e:=xv2 s.Key m h
 simp only [Qbz,un,cur0,xeo,e,xaf,xaD,xah,xav,xam,xai,xar,true_and,and_true]
 exact xb5 (b:=xcB s.Key) (c:=decide (s.Tag=xrI s.Key m)) fun _=>by rw [xdZ]) k
def xlB (m:List Int) (key:Int) (s:xfD):Bool:=decide (s.Key=key)&&xoa m s
def xks (a:xbV) (m:List Int) (l:List xfD):Nat:=a.Lst.countP fun key=>l.any (xlB m key)
theorem xdB (l:List xfD) (key:Int) (m:List Int) (hl:l.length≤1048576) (h:m.length<80000000) (k):call Qet [.one (.list 2 (l.map xck)),.fn 433 [.cells [I key],.cells [ints m]]] k=k [.bool (l.any (xlB m key))]:=xaa (fun k=>by
 have e:∀k,call Qes [.one (.list 2 (l.map xck)),.fn 433 [.cells [I key],.cells [ints m]]] k=k [I (idx (xlB m key) l)]:=xaa (fun k=>by
  simp [Qes]
  refine xfs (Q:=fun i=>k [I i]) l (fun i=>[.list 2 (l.map xck),I key,ints m,I 0,I l.length,I i]) (xlB m key) rfl (fun i x hx hi K=>?_) fun K=>?_
  ·have e1:∀k,call Qer [.agg (xck x),.ro (.cells [I key]),.ro (.cells [ints m])] k=k [.bool (xlB m key x)]:=xaa (fun k=>by
    have e:=xvC x m h
    simp only [Qer,un,cur0,xaD,e,xaf,xah,xav,xam,xai,xar,true_and,and_true]
    by_cases hk:x.Key=key<;>simp [hk,xlB])
   simp [-getElem?_pos,Qes_r0,hx,hi,e1,xap (show i<1000000000000000000 by omega)]
  ·simp [Qes_r0])
 simp [Qet,e,xl1]) k
theorem xvB (a:xbV) (m:List Int) (l:List xfD) (h:xbf a≤1048576) (hm:m.length<80000000) (hl:l.length≤1048576) (k):call Qeu [.agg (xcM a),.one (ints m),.one (.list 2 (l.map xck))] k=k [I (xks a m l)]:=xaa (fun k=>by
 unfold xbf at h
 simp [Qeu]
 refine xbI a.Lst (fun i=>[.list 2 (l.map xck),I 0,I ((a.Lst.take i).countP fun key=>l.any (xlB m key):Nat),ints a.Lst,I a.Lst.length,I i,ints m]) rfl (fun i x hx hi K=>?_) fun K=>?_
 ·have hc:(a.Lst.take i).countP (fun key=>l.any (xlB m key))≤i:=Nat.le_trans List.countP_le_length (by simp;omega)
  have e:=xdB l x m hl hm
  simp only [Qeu_r0,un,cur0,xan,xah,show decide ((i:Int)<a.Lst.length)=true by simp;omega,if_true,xaj,ints,List.getElem?_map,hx,Int.toNat_natCast,Option.map_some,true_and,xaf,rI]
  rw [show PV.list 1 (m.map fun n=>[I n])=ints m from rfl]
  simp only [e,xaf,xah,xbh,xap (show i<1000000000000000000 by omega),xap (show (a.Lst.take i).countP (fun key=>l.any (xlB m key))<1000000000000000000 by omega)]
  rw [xa0 hx,List.countP_append,List.countP_cons,List.countP_nil]
  cases hb:l.any (xlB m x)<;>simp [hb]
 ·simp [Qeu_r0,xks]) k
theorem xv0 (a:xbV) (m:List Int) (l:List xfD) (h:xbf a≤1048576) (hm:m.length<80000000) (hl:l.length≤1048576) (k):call Qca [.agg (xcM a),.one (ints m),.one (.list 2 (l.map xck))] k=k [I (xks a m l)]:=xaa (fun k=>by
 unfold xbf at h
 simp only [Qca,un,cur0,xav,xam,xai,xao,true_and]
 refine xbI a.Lst (fun i=>[ints m,.list 2 (l.map xck),I 0,I ((a.Lst.take i).countP fun key=>l.any (xlB m key):Nat),I i,ints a.Lst,I a.Need]) rfl (fun i x hx hi K=>?_) fun K=>?_
 ·have hc:(a.Lst.take i).countP (fun key=>l.any (xlB m key))≤i:=Nat.le_trans List.countP_le_length (by simp;omega)
  simp [-getElem?_pos,Qca_r0,hi]
  rw [xa0 hx,List.countP_append,List.countP_cons,List.countP_nil]
  generalize hn:(a.Lst.take i).countP (fun key=>l.any (xlB m key))=n at hc
  refine (xoF (P:=K [ints m,.list 2 (l.map xck),I 0,I ((n+1:Nat):Int),I ((i+1:Nat):Int),ints a.Lst,I a.Need]) (fin:=K [ints m,.list 2 (l.map xck),I 0,I (n:Int),I ((i+1:Nat):Int),ints a.Lst,I a.Need]) l (fun j=>[ints m,.list 2 (l.map xck),I 0,I (n:Int),I i,I j,ints a.Lst,I a.Need]) (xlB m x) rfl (fun j y hy hj K=>?_) fun K=>?_).trans ?_
  ·have e:=xv1 y m hm
   simp [-getElem?_pos,Qca_r1,hx,hy,hj,e,xlB,xap (show j<1000000000000000000 by omega),xap (show n<1000000000000000000 by omega),xap (show i<1000000000000000000 by omega)]
   by_cases hk:y.Key=x<;>simp [hk]
  ·simp [Qca_r1,xap (show i<1000000000000000000 by omega)]
  ·cases hb:l.any (xlB m x)<;>simp [hb]
 ·simp [Qca_r0,xks]) k
def xhy (a:xbV) (m:List Int) (l:List xfD):Bool:=xcQ a&&decide (a.Need≤(xks a m l:Int))
theorem xvA (a:xbV) (m:List Int) (l:List xfD) (h:xbf a≤1048576) (hm:m.length<80000000) (hl:l.length≤1048576) (k):call Qev [.agg (xcM a),.one (ints m),.one (.list 2 (l.map xck))] k=k [.bool (xhy a m l)]:=xaa (fun k=>by
 have e1:=xqU a h
 have e2:=xvB a m l h hm hl
 simp only [Qev,un,cur0,e1,e2,xaf,xah,xav,xam,xai,xar,true_and,and_true,xb4]
 exact xb5 fun _=>Iff.rfl) k
theorem xqX (a:xbV) (m:List Int) (l:List xfD) (h:xbf a≤1048576) (hm:m.length<80000000) (hl:l.length≤1048576) (k):call Qcb [.agg (xcM a),.one (ints m),.one (.list 2 (l.map xck))] k=k [.bool (xhy a m l)]:=xaa (fun k=>by
 have e1:=xqZ a h
 have e2:=xv0 a m l h hm hl
 simp only [Qcb,un,cur0,e1,e2,xaf,xah,xav,xam,xai,xar,true_and,and_true,xb4]
 exact xb5 fun _=>Iff.rfl) k
theorem xa1 {s:xag} (h:xau s≤1048576):xbu s.Head≤1048576∧s.Sigs.length≤1048576∧(xaW s.Head).length<80000000:=by
 have hl:=xc3 s.Head
 unfold xau at h
 omega
def sBy (s:xag) (a:xbV):Bool:=xhy a (xaW s.Head) s.Sigs
theorem xch (s:xag) (a:xbV) (h:xau s≤1048576) (ha:xbf a≤1048576) (k):call Qew [.agg (xal s),.agg (xcM a)] k=k [.bool (sBy s a)]:=xaa (fun k=>by
 obtain ⟨h1,h2,h3⟩:=xa1 h
 have e1:=xqS s.Head h1
 have e2:=xvA a (xaW s.Head) s.Sigs ha h3 h2
 simp only [Qew,un,cur0,e1,e2,xaf,xav,xam,xai,xar,true_and,and_true,sBy]) k
def xcG (s:xag):Bool:=xcu s.Head&&(decide (s.Head.Epoch=0)&&(decide (s.Head.Kind=1)&&(!s.Head.Frozen&&(decide (s.Head.Zone=xhv s.Head.Keys s.Head.Prev)&&sBy s s.Head.Keys))))
theorem xsz (s:xag) (h:xau s≤1048576) (k):call Qex [.agg (xal s)] k=k [.bool (xcG s)]:=xaa (fun k=>by
 obtain ⟨h1,h2,h3⟩:=xa1 h
 obtain ⟨q1,q2,q3⟩:=xc5 h1
 have e1:=xsA s.Head h1
 have e2:=xvH s.Head.Keys s.Head.Prev q1
 have e3:=xch s s.Head.Keys h q1
 simp only [Qex,un,cur0,e1,e2,e3,xaD,xdZ,xa8,xaf,xah,xav,xam,xai,xar,true_and,and_true]
 exact xb5 fun _=>xb5 fun _=>xb5 fun _=>xb5 fun _=>xb5 fun _=>Iff.rfl) k
theorem xsJ (s:xag) (h:xau s≤1048576) (k):call Qcc [.agg (xal s)] k=k [.bool (xcG s)]:=xaa (fun k=>by
 obtain ⟨h1,h2,h3⟩:=xa1 h
 obtain ⟨q1,q2,q3⟩:=xc5 h1
 have e1:=xsK s.Head h1
 have e2:=xv4 s.Head.Keys s.Head.Prev q1
 have e3:=xpC s.Head h1
 have e4:=xqX s.Head.Keys (xaW s.Head) s.Sigs q1 h3 h2
 simp only [Qcc,un,cur0,e1,e2,e3,e4,xaD,xdZ,xa8,xaf,xah,xav,xam,xai,xar,true_and,and_true]
 exact xb5 fun _=>xb5 fun _=>xb5 fun _=>xb5 fun _=>xb5 fun _=>Iff.rfl) k
theorem xgU {b:Bool} {v c:Int} {P:Prop} {k:List PV→Prop} (h:b=false→(P↔k [I c])):(if b=true then k [I v] else P)↔k [I (if b=true then v else c)]:=by
 cases b
 ·simpa using h rfl
 ·simp
theorem xhp {b:Bool} {v c:Int} {P:Prop} {k:List PV→Prop} (h:b=true→(P↔k [I c])):(if (!b)=true then k [I v] else P)↔k [I (if b=true then c else v)]:=by
 cases b
 ·simp
 ·simpa using h rfl
def xiz (a b:xa7):Bool:=decide (a.Count=b.Count)&&decide (a.Root=b.Root)
theorem xtR (a b:xa7) (k):call Qfd [.agg (xbo a),.agg (xbo b)] k=k [.bool (xiz a b)]:=xaa (fun k=>by
 simp only [Qfd,un,cur0,xaD,xdZ,xah,xav,xam,xai,xar,true_and,and_true]
 exact xb5 fun _=>Iff.rfl) k
theorem xt0 (a b:xa7) (k):call Qch [.agg (xbo a),.agg (xbo b)] k=k [.bool (xiz a b)]:=xaa (fun k=>by
 simp only [Qch,un,cur0,xaD,xdZ,xah,xav,xam,xai,xar,true_and,and_true]
 exact xb5 fun _=>Iff.rfl) k
def xpY (p h:xa7):Bool:=decide (h.Zone=p.Zone)&&(decide (h.Epoch=IntKind.i64.wrap (p.Epoch+1))&&(decide (h.Prev=xhz p)&&decide (p.Time≤h.Time)))
theorem xvy (p h:xa7) (hp:xbu p≤1048576) (k):call Qez [.agg (xbo p),.agg (xbo h)] k=k [.bool (xpY p h)]:=xaa (fun k=>by
 have e:=xvz p hp
 simp only [Qez,un,cur0,e,xaD,xb4,xbh,xdZ,xaf,xah,xav,xam,xai,xar,true_and,and_true]
 exact xb5 fun _=>xb5 fun _=>xb5 fun _=>Iff.rfl) k
def xmy (p:xa7) (s:xag):Int:=if p.Frozen=true then 4 else if s.Head.Frozen=true then 6 else if sBy s p.Keys=true then 1 else 7
def xpZ (p:xa7) (s:xag):Int:=if p.Frozen=true then 4 else if sNo p.Heirs=true then 5 else if decide (s.Head.Time<IntKind.i64.wrap (p.Until+p.Wait))=true then 5 else if s.Head.Frozen=true then 6 else
 if decide (s.Head.Keys=p.Heirs)=true then (if xiz s.Head p=true then (if sBy s p.Heirs=true then 1 else 7) else 6) else 6
def sJC (p:xa7) (s:xag):Int:=if sNo p.Judge=true then 5 else if decide (s.Head.Frozen=p.Frozen)=true then 6 else
 if (xiz s.Head p&&(decide (s.Head.Judge=p.Judge)&&(decide (s.Head.Heirs=p.Heirs)&&decide (s.Head.Wait=p.Wait))))=true then (if (!s.Head.Frozen||decide (s.Head.Keys=p.Keys))=true then (if sBy s p.Judge=true then 1 else 7) else 6) else 6
def xod (p:xa7) (s:xag):Int:=if xcu p=true then (if xcu s.Head=true then (if xpY p s.Head=true then (if decide (s.Head.Kind=1)=true then xmy p s else if decide (s.Head.Kind=2)=true then xpZ p s else sJC p s) else 3) else 2) else 2
theorem xvx (p:xa7) (s:xag) (hp:xbu p≤1048576) (hs:xau s≤1048576) (k):call Qfa [.agg (xbo p),.agg (xal s)] k=k [I (xmy p s)]:=xaa (fun k=>by
 obtain ⟨q1,q2,q3⟩:=xc5 hp
 have e:=xch s p.Keys hs q1
 simp only [Qfa,un,cur0,e,xa8,xaf,xah,xav,xam,xai,xao,true_and,and_true]
 exact xgU fun _=>xgU fun _=>xhp fun _=>Iff.rfl) k
theorem xvw (p:xa7) (s:xag) (hp:xbu p≤1048576) (hs:xau s≤1048576) (k):call Qfe [.agg (xbo p),.agg (xal s)] k=k [I (xpZ p s)]:=xaa (fun k=>by
 obtain ⟨q1,q2,q3⟩:=xc5 hp
 obtain ⟨r1,r2,r3⟩:=xc5 (xa1 hs).1
 have e:=xch s p.Heirs hs q2
 have e2:=xmn s.Head.Keys p.Heirs r1
 simp only [Qfe,un,cur0,e,e2,xnV,xtR,xa8,xbh,xan,xaf,xah,xav,xam,xai,xao,true_and,and_true]
 exact xgU fun _=>xgU fun _=>xgU fun _=>xgU fun _=>xhp fun _=>xhp fun _=>xhp fun _=>Iff.rfl) k
theorem xvv (p:xa7) (s:xag) (hp:xbu p≤1048576) (hs:xau s≤1048576) (k):call Qff [.agg (xbo p),.agg (xal s)] k=k [I (sJC p s)]:=xaa (fun k=>by
 obtain ⟨q1,q2,q3⟩:=xc5 hp
 obtain ⟨r1,r2,r3⟩:=xc5 (xa1 hs).1
 have e:=xch s p.Judge hs q3
 have e2:=xmn s.Head.Judge p.Judge r3
 have e3:=xmn s.Head.Heirs p.Heirs r2
 have e4:=xmn s.Head.Keys p.Keys r1
 simp only [Qff,un,cur0,e,e2,e3,e4,xnV,xtR,xa8,xlm,xaD,xdZ,xaf,xah,xav,xam,xai,xao,true_and,and_true,sJC]
 generalize sNo p.Judge=b1
 generalize xiz s.Head p=b2
 generalize decide (s.Head.Judge=p.Judge)=b3
 generalize decide (s.Head.Heirs=p.Heirs)=b4
 generalize decide (s.Head.Wait=p.Wait)=b5
 generalize decide (s.Head.Keys=p.Keys)=b6
 generalize sBy s p.Judge=b7
 cases b1<;>cases b2<;>cases b3<;>cases b4<;>cases b5<;>cases b6<;>cases b7<;>cases s.Head.Frozen<;>cases p.Frozen<;>simp) k
theorem xvu (p:xa7) (s:xag) (hp:xbu p≤1048576) (hs:xau s≤1048576) (k):call Qfg [.agg (xbo p),.agg (xal s)] k=k [I (xod p s)]:=xaa (fun k=>by
 have e1:=xsA p hp
 have e2:=xsA s.Head (xa1 hs).1
 have e3:=xvy p s.Head hp
 have e4:=xvx p s hp hs
 have e5:=xvw p s hp hs
 have e6:=xvv p s hp hs
 simp only [Qfg,un,cur0,e1,e2,e3,e4,e5,e6,xa8,xaD,xdZ,xaf,xah,xav,xam,xai,xao,true_and,and_true]
 refine xhp fun _=>xhp fun _=>xhp fun _=>?_
 by_cases h1:s.Head.Kind=1
 ·simp [h1]
 ·by_cases h2:s.Head.Kind=2<;>simp [h1,h2]) k
def xnp (p:xa7) (s:xag):Bool:=decide (xod p s=1)
theorem xsx (p:xa7) (s:xag) (hp:xbu p≤1048576) (hs:xau s≤1048576) (k):call Qfh [.agg (xbo p),.agg (xal s)] k=k [.bool (xnp p s)]:=xaa (fun k=>by
 have e:=xvu p s hp hs
 simp only [Qfh,un,cur0,e,xaD,xdZ,xaf,xav,xam,xai,xar,true_and,and_true,xnp]) k
theorem xqW (a b:xbV) (h:xbf a≤1048576) (k):call Qcg [.agg (xcM a),.agg (xcM b)] k=k [.bool (decide (a=b))]:=xaa (fun k=>by
 unfold xbf at h
 obtain ⟨l,n⟩:=a
 obtain ⟨m,q⟩:=b
 have e:=xsI l m (by simp only at h;omega)
 simp only [Qcg,un,cur0,e,xaD,xdZ,xaf,xah,xav,xam,xai,xar,true_and,and_true]
 by_cases h1:n=q<;>by_cases h2:l=m<;>simp [h1,h2]) k
theorem xvY (p h:xa7) (k):call Qce [.agg (xbo p),.agg (xbo h)] k=k [I (if p.Frozen=true then 4 else if h.Frozen=true then 6 else 1)]:=xaa (fun k=>by
 simp only [Qce,un,cur0,xah,xav,xam,xai,xao,true_and,and_true]
 exact xgU fun _=>xgU fun _=>Iff.rfl) k
def xqb (p h:xa7):Int:=if p.Frozen=true then 4 else if sNo p.Heirs=true then 5 else if decide (h.Time<IntKind.i64.wrap (p.Until+p.Wait))=true then 5 else if h.Frozen=true then 6 else
 if decide (h.Keys=p.Heirs)=true then (if xiz h p=true then 1 else 6) else 6
theorem xvX (p h:xa7) (hp:xbu p≤1048576) (hh:xbu h≤1048576) (k):call Qci [.agg (xbo p),.agg (xbo h)] k=k [I (xqb p h)]:=xaa (fun k=>by
 obtain ⟨r1,r2,r3⟩:=xc5 hh
 have e2:=xqW h.Keys p.Heirs r1
 simp only [Qci,un,cur0,e2,xsL,xt0,xa8,xbh,xan,xaf,xah,xav,xam,xai,xao,true_and,and_true]
 exact xgU fun _=>xgU fun _=>xgU fun _=>xgU fun _=>xhp fun _=>xhp fun _=>Iff.rfl) k
def xkz (p h:xa7):Int:=if sNo p.Judge=true then 5 else if decide (h.Frozen=p.Frozen)=true then 6 else
 if (xiz h p&&(decide (h.Judge=p.Judge)&&(decide (h.Heirs=p.Heirs)&&decide (h.Wait=p.Wait))))=true then (if (!h.Frozen||decide (h.Keys=p.Keys))=true then 1 else 6) else 6
theorem xvW (p h:xa7) (hp:xbu p≤1048576) (hh:xbu h≤1048576) (k):call Qcj [.agg (xbo p),.agg (xbo h)] k=k [I (xkz p h)]:=xaa (fun k=>by
 obtain ⟨r1,r2,r3⟩:=xc5 hh
 have e2:=xqW h.Judge p.Judge r3
 have e3:=xqW h.Heirs p.Heirs r2
 have e4:=xqW h.Keys p.Keys r1
 have e5:(h.Wait != p.Wait)=!decide (h.Wait=p.Wait):=by rw [bne,xdZ]
 simp only [Qcj,un,cur0,e2,e3,e4,xsL,xt0,xa8,xlm,xbM,e5,xaf,xah,xav,xam,xai,xao,true_and,and_true,xkz]
 generalize sNo p.Judge=b1
 generalize xiz h p=b2
 generalize decide (h.Judge=p.Judge)=b3
 generalize decide (h.Heirs=p.Heirs)=b4
 generalize decide (h.Wait=p.Wait)=b5
 generalize decide (h.Keys=p.Keys)=b6
 cases b1<;>cases b2<;>cases b3<;>cases b4<;>cases b5<;>cases b6<;>cases h.Frozen<;>cases p.Frozen<;>simp) k
theorem xnK (p:xa7) (s:xag):xmy p s=if decide ((if p.Frozen=true then 4 else if s.Head.Frozen=true then 6 else 1:Int)=1)=true then (if sBy s p.Keys=true then 1 else 7) else (if p.Frozen=true then 4 else if s.Head.Frozen=true then 6 else 1):=by
 unfold xmy
 cases p.Frozen<;>cases s.Head.Frozen<;>simp
theorem xpe (p:xa7) (s:xag):xpZ p s=if decide (xqb p s.Head=1)=true then (if sBy s p.Heirs=true then 1 else 7) else xqb p s.Head:=by
 unfold xpZ xqb
 cases p.Frozen<;>cases sNo p.Heirs<;>by_cases h1:s.Head.Time<IntKind.i64.wrap (p.Until+p.Wait)<;>cases s.Head.Frozen<;>by_cases h2:s.Head.Keys=p.Heirs<;>cases xiz s.Head p<;>simp [h1,h2]
theorem xnL (p:xa7) (s:xag):sJC p s=if decide (xkz p s.Head=1)=true then (if sBy s p.Judge=true then 1 else 7) else xkz p s.Head:=by
 unfold sJC xkz
 generalize (xiz s.Head p&&(decide (s.Head.Judge=p.Judge)&&(decide (s.Head.Heirs=p.Heirs)&&decide (s.Head.Wait=p.Wait))))=b2
 generalize (!s.Head.Frozen||decide (s.Head.Keys=p.Keys))=b3
 generalize decide (s.Head.Frozen=p.Frozen)=b4
 cases sNo p.Judge<;>cases b2<;>cases b3<;>cases b4<;>simp
theorem xoV {h:xa7} (hh:xcu h=true):h.Kind=1∨h.Kind=2∨h.Kind=3:=by
 unfold xcu at hh
 simp only [Bool.and_eq_true,inR,decide_eq_true_eq] at hh
 omega
theorem xqB {c:Int} {b:Bool} {k:List PV→Prop}:(if decide (c=1)=true then (if (!b)=true then k [I 7] else k [I c]) else k [I c])↔k [I (if decide (c=1)=true then (if b=true then 1 else 7) else c)]:=by
 by_cases h:c=1
 ·subst h;cases b<;>simp
 ·simp [h]
theorem xvV (p:xa7) (s:xag) (hp:xbu p≤1048576) (hs:xau s≤1048576) (k):call Qck [.agg (xbo p),.agg (xal s)] k=k [I (xod p s)]:=xaa (fun k=>by
 obtain ⟨h1,h2,h3⟩:=xa1 hs
 obtain ⟨q1,q2,q3⟩:=xc5 hp
 have e1:=xsK p hp
 have e2:=xsK s.Head h1
 have e3:=xvZ p hp
 have e4:=xvY p s.Head
 have e5:=xvX p s.Head hp h1
 have e6:=xvW p s.Head hp h1
 have e7:=xpC s.Head h1
 have e8:=xqX p.Keys (xaW s.Head) s.Sigs q1 h3 h2
 have e9:=xqX p.Heirs (xaW s.Head) s.Sigs q2 h3 h2
 have e10:=xqX p.Judge (xaW s.Head) s.Sigs q3 h3 h2
 simp only [Qck,un,cur0,e1,e2,e3,e4,e5,e6,e7,e8,e9,e10,xa8,xaD,xbM,xbh,xan,bne,xdZ,xaf,xah,xav,xam,xai,xao,true_and,and_true,xqB]
 refine xhp fun _=>xhp fun hh=>?_
 have hk:=xoV hh
 have hc:∀{b1 b2 b3 b4:Bool} {P:Prop} {c:Int},(P↔k [I c])→((if (!b1)=true then k [I 3] else if (!b2)=true then k [I 3] else if (!b3)=true then k [I 3] else if (!b4)=true then k [I 3] else P)↔k [I (if (b1&&(b2&&(b3&&b4)))=true then c else 3)]):=by
  intro b1 b2 b3 b4 P c h
  cases b1<;>cases b2<;>cases b3<;>cases b4<;>simp [h]
 rw [show decide (s.Head.Time<p.Time)=!decide (p.Time≤s.Head.Time) by by_cases h:p.Time≤s.Head.Time<;>simp [h]<;>omega]
 refine hc ?_
 rw [xnK,xpe,xnL]
 rcases hk with hk | hk | hk<;>simp [hk,sBy]
 all_goals exact Iff.rfl) k
theorem xsH (p:xa7) (s:xag) (hp:xbu p≤1048576) (hs:xau s≤1048576) (k):call Qcl [.agg (xbo p),.agg (xal s)] k=k [.bool (xnp p s)]:=xaa (fun k=>by
 have e:=xvV p s hp hs
 simp only [Qcl,un,cur0,e,xaD,xdZ,xaf,xav,xam,xai,xar,true_and,and_true,xnp]) k
def xj1 {α:Type} (p:Nat→α→Bool):Nat→List α→Int
 | _,[]=>-1
 | i,x::l=>if p i x=true then (i:Int) else xj1 p (i+1) l
theorem xh8 {α:Type} (p:Nat→α→Bool) (Q:Int→Prop):∀(i:Nat) (l:List α),xe4 p (fun i _=>Q i) (Q (-1)) i l=Q (xj1 p i l)
 | _,[]=>rfl
 | i,x::l=>by
  rw [xe4,xh8 p Q (i+1) l,xj1]
  split<;>rfl
theorem xmN {α:Type} {R:(List PV→Prop)→List PV→Prop} {v:List PV} {Q:Int→Prop} (l:List α) (V:Nat→List PV) (p:Nat→α→Bool) (hv:v=V 0)
 (h:∀i x,l[i]? = some x→i<l.length→∀K,R K (V i)↔if p i x=true then Q i else K (V (i+1))) (hf:∀K,R K (V l.length)↔Q (-1)):lp R v↔Q (xj1 p 0 l):=by
 have:=xhN l V p (fun i _=>Q i) hv (fun i x hx=>h i x hx (xaL hx)) hf
 rwa [xh8] at this
def xe5 (l:List xag) (i:Nat) (x:xag):Bool:=if i=0 then !xcG x else match l[i-1]? with | some y=>!xnp y.Head x | none=>true
def sFW (l:List xag):Int:=xj1 (xe5 l) 0 l
theorem xbZ {l:List xag} (h:xaq l≤1048576):l.length≤1048576∧∀x∈l,xau x≤1048576:=by
 unfold xaq at h
 refine ⟨by omega,fun x hx=>?_⟩
 have:=xbO (s:=xau) hx
 omega
theorem xvt (l:List xag) (h:xaq l≤1048576) (k):call Qfi [.one (.list 17 (l.map xal))] k=k [I (sFW l)]:=xaa (fun k=>by
 obtain ⟨hl,hx0⟩:=xbZ h
 simp only [Qfi,xaG,List.length_map,xav,xam,xai,xao,true_and]
 refine xmN (Q:=fun i=>k [I i]) l (fun i=>[.list 17 (l.map xal),I 0,.list 17 (l.map xal),I l.length,I i]) (xe5 l) rfl (fun i x hx hi K=>?_) fun K=>?_
 ·have hm:=hx0 x (xbc hx)
  by_cases h0:i=0
  ·subst h0
   have e:=xsz x hm
   simp [-getElem?_pos,Qfi_r0,hx,hi,e,xe5,xcn]
  ·obtain ⟨y,hy⟩:∃y,l[i-1]? = some y:=⟨l[i-1],List.getElem?_eq_getElem (by omega)⟩
   have e:=xsx y.Head x (xa1 (hx0 y (xbc hy))).1 hm
   simp [-getElem?_pos,Qfi_r0,hx,hi,hy,h0,e,xe5,show ¬(i:Int)=0 by omega,show 0<i by omega,xd0 (show 0<i by omega) (show i<1000000000000000000 by omega),xap (show i<1000000000000000000 by omega)]
 ·simp [Qfi_r0]) k
theorem xvU (l:List xag) (h:xaq l≤1048576) (k):call Qcm [.one (.list 17 (l.map xal))] k=k [I (sFW l)]:=xaa (fun k=>by
 obtain ⟨hl,hx0⟩:=xbZ h
 simp only [Qcm,xaG,List.length_map,xav,xam,xai,xao,true_and]
 refine xmN (Q:=fun i=>k [I i]) l (fun i=>[.list 17 (l.map xal),I 0,I i]) (xe5 l) rfl (fun i x hx hi K=>?_) fun K=>?_
 ·have hm:=hx0 x (xbc hx)
  by_cases h0:i=0
  ·subst h0
   have e:=xsJ x hm
   simp [-getElem?_pos,Qcm_r0,hx,hi,e,xe5,xcn]
  ·obtain ⟨y,hy⟩:∃y,l[i-1]? = some y:=⟨l[i-1],List.getElem?_eq_getElem (by omega)⟩
   have e:=xsH y.Head x (xa1 (hx0 y (xbc hy))).1 hm
   simp [-getElem?_pos,Qcm_r0,hx,hi,hy,h0,e,xe5,show ¬(i:Int)=0 by omega,show 0<i by omega,xd0 (show 0<i by omega) (show i<1000000000000000000 by omega),xap (show i<1000000000000000000 by omega)]
 ·simp [Qcm_r0]) k
def xaM (l:List xag):Bool:=inR l.length 1 12&&decide (sFW l<0)
theorem xpA (l:List xag) (h:xaq l≤1048576) (k):call Qfj [.one (.list 17 (l.map xal))] k=k [.bool (xaM l)]:=xaa (fun k=>by
 have e:=xvt l h
 simp only [Qfj,xaG,List.length_map,xdn,e,xan,xaf,xah,xav,xam,xai,xar,true_and,and_true]
 exact xb5 fun _=>Iff.rfl) k
theorem xqV (l:List xag) (h:xaq l≤1048576) (k):call Qcn [.one (.list 17 (l.map xal))] k=k [.bool (xaM l)]:=xaa (fun k=>by
 have e:=xvU l h
 simp only [Qcn,xaG,List.length_map,xeo,e,xan,xaf,xah,xav,xam,xai,xar,true_and,and_true]
 exact xb5 fun _=>Iff.rfl) k
theorem xeJ {l:List xag} (h:xaM l=true):∃p,l[l.length-1]? = some p∧0<l.length:=by
 unfold xaM inR at h
 simp only [Bool.and_eq_true,decide_eq_true_eq] at h
 exact ⟨l[l.length-1],List.getElem?_eq_getElem (by omega),by omega⟩
def xek:xa7:=⟨0,0,0,0,0,0,0,0,⟨[],0⟩,⟨[],0⟩,0,⟨[],0⟩,false⟩
def xe2 (l:List xag):Option xa7:=if xaM l=true then (l[l.length-1]?).map (·.Head) else none
def xe3:Option xa7→List PV
 | some h=>xbo h++[.bool true]
 | none=>xbo xek++[.bool false]
theorem xtZ (l:List xag) (h:xaq l≤1048576) (k):call Qco [.one (.list 17 (l.map xal))] k=k (xe3 (xe2 l)):=xaa (fun k=>by
 obtain ⟨hl,hx0⟩:=xbZ h
 have e:=xqV l h
 unfold xe2
 cases hc:xaM l with
 | false=>simp [Qco,e,hc,xe3,xek,ints]
 | true =>
  obtain ⟨p,hp,h0⟩:=xeJ hc
  have e3:=xt1 p.Head (xa1 (hx0 p (xbc hp))).1
  simp [-getElem?_pos,Qco,e,hc,e3,xe3,hp,xd0 h0 (show l.length<1000000000000000000 by omega)]) k
def azB (x:UInt8):Bool:=(decide (97≤(x.toNat:Int))&&decide ((x.toNat:Int)≤122))||(decide (48≤(x.toNat:Int))&&decide ((x.toNat:Int)≤57))
def xdU (x:UInt8):Bool:=decide ((x.toNat:Int)=45)
def xpl (n:Nat) (i:Nat) (x:UInt8):Bool:=!(azB x||(xdU x&&(decide (0<i)&&decide (i+1<n))))
def xcz (s:ByteArray):Bool:=!xff (xpl s.data.toList.length) 0 s.data.toList&&inR s.size 1 8
theorem size_data (s:ByteArray):s.size=s.data.toList.length:=rfl
theorem xsw (s:ByteArray) (h:s.size≤1048576) (k):call Qfl [.one (.str s)] k=k [.bool (xcz s)]:=xaa (fun k=>by
 simp only [Qfl,xeB,xav,xam,xai,xar,true_and,xdn,xaf]
 refine (xjN (P:=k [.bool false]) (fin:=k [.bool (inR s.size 1 8)]) s.data.toList (fun i=>[.str s,.bool false,I s.size,I i]) (xpl s.data.toList.length) rfl (fun i x hx hi K=>?_) fun K=>?_).trans ?_
 ·have hw:=xap (show i<1000000000000000000 by rw [size_data] at h;omega)
  have hl:IntKind.i64.wrap ((s.size:Int)-1)=(s.size:Int)-1:=xcn (by omega) (by omega)
  have hs:=size_data s
  simp only [Qfl_r0,un,cur0,xan,xhg,xb4,xb3,xaD,xbh,xbP,xeB,xj8,Int.toNat_natCast,hx,oP,xah,xa8,xdZ,hw,hl,show decide ((i:Int)<s.size)=true by rw [hs];simp;omega,if_true,show (0:Int)≤i by omega,true_and]
  unfold xpl azB xdU
  have d1:decide ((i:Int)<(s.size:Int)-1)=decide (i+1<s.data.toList.length):=by apply decide_eq_decide.2;rw [hs];omega
  have d2:decide ((0:Int)<(i:Int))=decide (0<i):=by apply decide_eq_decide.2;omega
  rw [d1,d2]
  generalize decide (97≤(x.toNat:Int))=b1
  generalize decide ((x.toNat:Int)≤122)=b2
  generalize decide (48≤(x.toNat:Int))=b3
  generalize decide ((x.toNat:Int)≤57)=b4
  generalize decide ((x.toNat:Int)=45)=b5
  generalize decide (0<i)=b6
  generalize decide (i+1<s.data.toList.length)=b7
  cases b1<;>cases b2<;>cases b3<;>cases b4<;>cases b5<;>cases b6<;>cases b7<;>simp
 ·simp only [Qfl_r0,un,cur0,xan,xah,show decide (((s.data.toList.length:Nat):Int)<s.size)=false by rw [size_data];simp,xeB,xdn,xaf]
  simp
 ·unfold xcz
  cases xff (xpl s.data.toList.length) 0 s.data.toList<;>simp) k
theorem xqi (L:List UInt8) (x y:UInt8) (hx:L[0]? = some x) (hy:L[L.length-1]? = some y):xff (xpl L.length) 0 L=(xdU x||(xdU y||L.any fun b=>!(azB b||xdU b))):=by
 rw [Bool.eq_iff_iff]
 constructor
 ·intro h
  rcases hd:(xdU x||(xdU y||L.any fun b=>!(azB b||xdU b))) with _ | _
  ·exfalso
   simp only [Bool.or_eq_false_iff] at hd
   obtain ⟨d1,d2,d3⟩:=hd
   have hn:xff (xpl L.length) 0 L=false:=by
    rw [xeZ]
    intro j b hb
    have hj:=xaL hb
    have h3:=List.any_eq_false.1 d3 b (List.mem_of_getElem? hb)
    unfold xpl
    by_cases ha:azB b=true
    ·simp [ha]
    ·have hdb:xdU b=true:=by cases h:xdU b<;>simp [ha,h] at h3 ⊢
     have j0:j≠0:=by rintro rfl;rw [hx] at hb;injection hb with hb;subst hb;rw [d1] at hdb;cases hdb
     have j1:j≠L.length-1:=by rintro rfl;rw [hy] at hb;injection hb with hb;subst hb;rw [d2] at hdb;cases hdb
     simp [hdb,show 0<j by omega,show j+1<L.length by omega]
   rw [hn] at h;cases h
  ·rfl
 ·intro h
  cases hn:xff (xpl L.length) 0 L with
  | true=>rfl
  | false =>
   exfalso
   rw [xeZ] at hn
   have hl:=xaL hy
   have az_dash:∀b,xdU b=true→azB b=false:=by
    intro b hb
    unfold xdU at hb
    unfold azB
    simp only [decide_eq_true_eq] at hb
    simp [hb]
   simp only [Bool.or_eq_true] at h
   rcases h with h | h | h
   ·have:=hn 0 x hx
    simp [xpl,h,az_dash x h] at this
   ·have:=hn _ y hy
    simp [xpl,h,az_dash y h] at this
    omega
   ·obtain ⟨b,hb,h2⟩:=List.any_eq_true.1 h
    obtain ⟨j,hj⟩:=List.mem_iff_getElem?.1 hb
    have:=hn j b hj
    unfold xpl at this
    simp only [Bool.not_eq_true',Bool.or_eq_false_iff] at h2
    simp [h2.1,h2.2] at this
theorem xsG (s:ByteArray) (h:s.size≤1048576) (k):call Qcp [.one (.str s)] k=k [.bool (xcz s)]:=xaa (fun k=>by
 have hs:=size_data s
 unfold xcz
 cases hr:inR s.size 1 8 with
 | false=>simp [Qcp,xeo,hr]
 | true =>
  have h1:1≤s.size:=by unfold inR at hr;simp at hr;omega
  obtain ⟨x,hx⟩:∃x,s.data.toList[0]? = some x:=⟨s.data.toList[0]'(by omega),List.getElem?_eq_getElem (by omega)⟩
  obtain ⟨y,hy⟩:∃y,s.data.toList[s.data.toList.length-1]? = some y:=⟨_,List.getElem?_eq_getElem (by omega)⟩
  have hl:IntKind.i64.wrap ((s.size:Int)-1)=((s.size-1:Nat):Int):=by rw [xcn (by omega) (by omega)];omega
  have hy':s.data.toList[s.size-1]? = some y:=hy
  rw [xqi _ x y hx hy]
  simp only [Qcp,xeB,xeo,hr,xa8,xaf,xah,xbP,hl,xaD,xdZ,xj8,Int.toNat_natCast,show ((0:Int)).toNat=0 from rfl,hx,hy',oP,xav,xam,xai,xar,true_and,Bool.not_true,Bool.false_eq_true,if_false,show (0:Int)≤0 by omega,show (0:Int)≤((s.size-1:Nat):Int) by omega]
  rw [show decide ((x.toNat:Int)=45)=xdU x from rfl,show decide ((y.toNat:Int)=45)=xdU y from rfl]
  have key:lp (fun L w=>Qcp_r0 w L (k [PV.bool false]) fun q29 q30 q31=>k [PV.bool true]) [PV.str s,PV.bool false,I 0]↔k [.bool (!(s.data.toList.any fun b=>!(azB b||xdU b)))]:=by
   refine (xoF (P:=k [.bool false]) (fin:=k [.bool true]) s.data.toList (fun i=>[.str s,.bool false,I i]) (fun b=>!(azB b||xdU b)) rfl (fun i x hx hi K=>?_) fun K=>?_).trans ?_
   ·have hw:=xap (show i<1000000000000000000 by omega)
    simp only [Qcp_r0,un,cur0,xan,xhg,xb4,xb3,xaD,xbM,xbh,xeB,xj8,Int.toNat_natCast,hx,oP,xah,xa8,bne,xdZ,hw,show decide ((i:Int)<s.size)=true by rw [hs];simp;omega,if_true,show (0:Int)≤i by omega,true_and]
    unfold azB xdU
    rw [show decide ((x.toNat:Int)<97)=!decide (97≤(x.toNat:Int)) by by_cases h:97≤(x.toNat:Int)<;>simp [h]<;>omega,
     show decide ((x.toNat:Int)<48)=!decide (48≤(x.toNat:Int)) by by_cases h:48≤(x.toNat:Int)<;>simp [h]<;>omega,
     show decide (122<(x.toNat:Int))=!decide ((x.toNat:Int)≤122) by by_cases h:(x.toNat:Int)≤122<;>simp [h]<;>omega,
     show decide (57<(x.toNat:Int))=!decide ((x.toNat:Int)≤57) by by_cases h:(x.toNat:Int)≤57<;>simp [h]<;>omega]
    generalize decide (97≤(x.toNat:Int))=b1
    generalize decide ((x.toNat:Int)≤122)=b2
    generalize decide (48≤(x.toNat:Int))=b3
    generalize decide ((x.toNat:Int)≤57)=b4
    generalize decide ((x.toNat:Int)=45)=b5
    cases b1<;>cases b2<;>cases b3<;>cases b4<;>cases b5<;>simp
   ·simp only [Qcp_r0,un,cur0,xan,xeB,xah,show decide (((s.data.toList.length:Nat):Int)<s.size)=false by rw [size_data];simp]
    simp
   ·cases (s.data.toList.any fun b=>!(azB b||xdU b))<;>simp
  rw [propext key]
  cases xdU x<;>cases xdU y<;>simp) k
def xct (p:List ByteArray):Bool:=inR p.length 1 4&&!(p.any fun s=>!xcz s)
theorem xjG {p:List ByteArray} (h:p.length+xbn ByteArray.size p≤1048576):p.length≤1048576∧∀s∈p,s.size≤1048576:=by
 refine ⟨by omega,fun s hs=>?_⟩
 have:=xbO (s:=ByteArray.size) hs
 omega
theorem xsv (p:List ByteArray) (h:p.length+xbn ByteArray.size p≤1048576) (k):call Qfp [.one (strs p)] k=k [.bool (xct p)]:=xaa (fun k=>by
 obtain ⟨hl,hs⟩:=xjG h
 have e:∀k,call Qfn [.one (strs p),.fn 282 []] k=k [I (idx (fun s=>!xcz s) p)]:=xaa (fun k=>by
  simp [Qfn]
  refine xfs (Q:=fun i=>k [I i]) p (fun i=>[strs p,I 0,I p.length,I i]) (fun s=>!xcz s) rfl (fun i x hx hi K=>?_) fun K=>?_
  ·have e1:∀k,call Qfm [.one (.str x)] k=k [.bool (!xcz x)]:=xaa (fun k=>by simp [Qfm,xsw x (hs x (xbc hx))])
   simp [-getElem?_pos,Qfn_r0,hx,hi,e1,xap (show i<1000000000000000000 by omega)]
  ·simp [Qfn_r0])
 have e2:∀k,call Qfo [.one (strs p),.fn 282 []] k=k [.bool (p.any fun s=>!xcz s)]:=xaa (fun k=>by simp [Qfo,e,xl1])
 simp only [Qfp,xaG,List.length_map,xdn,e2,xa8,xaf,xah,xav,xam,xai,xar,true_and]
 exact xb5 fun _=>Iff.rfl) k
theorem xsF (p:List ByteArray) (h:p.length+xbn ByteArray.size p≤1048576) (k):call Qcq [.one (strs p)] k=k [.bool (xct p)]:=xaa (fun k=>by
 obtain ⟨hl,hs⟩:=xjG h
 simp only [Qcq,xav,xam,xai,xar,true_and,xaG,List.length_map,xeo,xaf]
 refine (xoF (P:=k [.bool false]) (fin:=k [.bool (inR p.length 1 4)]) p (fun i=>[strs p,.bool false,I i]) (fun s=>!xcz s) rfl (fun i x hx hi K=>?_) fun K=>?_).trans ?_
 ·have e:=xsG x (hs x (xbc hx))
  simp [-getElem?_pos,Qcq_r0,hx,hi,e,xap (show i<1000000000000000000 by omega)]
 ·simp [Qcq_r0,xeo]
 ·unfold xct
  cases (p.any fun s=>!xcz s)<;>simp) k
def xcq (e:xaS):Bool:=xcz e.Label&&(if decide (e.Kind=1)=true then inR e.Value 0 999999&&decide (e.Path.length=0) else if decide (e.Kind=2)=true then inR e.Value 0 2147483646&&decide (e.Path.length=0) else if decide (e.Kind=3)=true then inR e.Value 0 2147483646&&xct e.Path else false)
theorem xhe {e:xaS} (h:xax e≤1048576):e.Label.size≤1048576∧e.Path.length+xbn ByteArray.size e.Path≤1048576:=by unfold xax at h;omega
theorem len0 (n:Nat):((n:Int)==0)=decide (n=0):=by rw [xdZ];apply decide_eq_decide.2;omega
theorem xvK (x:Int) (k):call Qdx [.one (I x)] k=k [.bool (inR x 0 2147483646)]:=xaa (fun k=>by simp [Qdx,xdn]) k
theorem xvr (e:xaS) (h:xax e≤1048576) (k):call Qfq [.agg (xbg e)] k=k [.bool (xcq e)]:=xaa (fun k=>by
 obtain ⟨h1,h2⟩:=xhe h
 have e1:=xsw e.Label h1
 have e2:=xsv e.Path h2
 simp only [Qfq,un,cur0,e1,e2,xdn,xvK,xaG,List.length_map,xaD,len0,xdZ,xa8,xaf,xah,xav,xam,xai,xar,true_and,xcq]
 refine xho fun _=>?_
 cases decide (e.Kind=1)<;>cases decide (e.Kind=2)<;>cases decide (e.Kind=3)<;>cases inR e.Value 0 999999<;>cases inR e.Value 0 2147483646<;>simp) k
theorem xvT (e:xaS) (h:xax e≤1048576) (k):call Qcr [.agg (xbg e)] k=k [.bool (xcq e)]:=xaa (fun k=>by
 obtain ⟨h1,h2⟩:=xhe h
 have e1:=xsG e.Label h1
 have e2:=xsF e.Path h2
 simp only [Qcr,un,cur0,e1,e2,xeo,xaG,List.length_map,xaD,len0,xdZ,xa8,xaf,xah,xav,xam,xai,xar,true_and,xcq]
 cases xcz e.Label<;>cases decide (e.Kind=1)<;>cases decide (e.Kind=2)<;>cases decide (e.Kind=3)<;>cases inR e.Value 0 999999<;>cases inR e.Value 0 2147483646<;>simp) k
theorem xf1:∀(a b:List UInt8),Go.Lib.compareBytes a b=-1∨Go.Lib.compareBytes a b=0∨Go.Lib.compareBytes a b=1
 | [],[]=>.inr (.inl rfl)
 | [],_::_=>.inl rfl
 | _::_,[]=>.inr (.inr rfl)
 | x::a,y::b=>by
  unfold Go.Lib.compareBytes
  split
  ·exact .inl rfl
  ·split
   ·exact .inr (.inr rfl)
   ·exact xf1 a b
theorem xm6:∀(a b:List UInt8),Op.bytesLess a b=decide (Go.Lib.compareBytes a b=-1)
 | [],[]=>by simp [Op.bytesLess,Go.Lib.compareBytes]
 | [],_::_=>by simp [Op.bytesLess,Go.Lib.compareBytes]
 | _::_,[]=>by simp [Op.bytesLess,Go.Lib.compareBytes]
 | x::a,y::b=>by
  have ih:=xm6 a b
  unfold Op.bytesLess Go.Lib.compareBytes
  by_cases h1:x<y
  ·simp [h1]
  ·by_cases h2:y<x
   ·have:¬x=y:=by rintro rfl;exact UInt8.lt_irrefl _ h2
    simp [h1,h2,this]
   ·have:x=y:=by
     apply UInt8.toNat_inj.1
     rw [UInt8.lt_iff_toNat_lt] at h1 h2
     omega
    simp [h1,h2,this,ih]
theorem xpf:∀(a b:List UInt8),(a==b)=decide (Go.Lib.compareBytes a b=0)
 | [],[]=>by simp [Go.Lib.compareBytes]
 | [],_::_=>by simp [Go.Lib.compareBytes]
 | _::_,[]=>by simp [Go.Lib.compareBytes]
 | x::a,y::b=>by
  have ih:=xpf a b
  unfold Go.Lib.compareBytes
  rw [List.cons_beq_cons]
  by_cases h1:x<y
  ·have:¬x=y:=by rintro rfl;exact UInt8.lt_irrefl _ h1
   simp [h1,this]
  ·by_cases h2:y<x
   ·have:¬x=y:=by rintro rfl;exact UInt8.lt_irrefl _ h2
    simp [h1,h2,this]
   ·have:x=y:=by
     apply UInt8.toNat_inj.1
     rw [UInt8.lt_iff_toNat_lt] at h1 h2
     omega
    simp [h1,h2,this,ih]
def xle (s t:ByteArray):Int:=Go.Lib.compareBytes s.data.toList t.data.toList
theorem xvq (s t:ByteArray) (k):call Qft [.one (.str s),.one (.str t)] k=k [I (xle s t)]:=xaa (fun k=>by
 have e:∀k,call Qlb [.one (.str s),.one (.str t)] k=k [I (xle s t)]:=xaa (fun k=>by simp [Qlb,xle])
 have e2:∀k,call Qfs [.one (.str s),.one (.str t)] k=k [I (xle s t)]:=xaa (fun k=>by simp [Qfs,e])
 simp [Qft,e2]) k
theorem xvS (s t:ByteArray) (k):call Qcs [.one (.str s),.one (.str t)] k=k [I (xle s t)]:=xaa (fun k=>by
 simp only [Qcs,xac,xfj,xm6,xpf,xah,xav,xam,xai,xao,true_and]
 unfold xle
 rcases xf1 s.data.toList t.data.toList with h | h | h<;>simp [h]) k
def xbK (p:List ByteArray):List Int:=p.flatMap xbJ
def xbt (e:xaS):List Int:=xbJ e.Label++([e.Kind,e.Value,(e.Path.length:Int)]++xbK e.Path)
theorem xdq:∀(p:List ByteArray),(xbK p).length=p.length+xbn ByteArray.size p
 | []=>rfl
 | s::p=>by
  have:=xdq p
  unfold xbK at this ⊢
  simp only [List.flatMap_cons,List.length_append,List.length_cons,xb0,xbn,this]
  omega
theorem xfZ (e:xaS):(xbt e).length=xax e+4:=by
 simp only [xbt,List.length_append,xb0,xdq,List.length_cons,List.length_nil,xax]
 omega
theorem xvo (e:xaS) (h:xax e≤1048576) (k):call Qfx [.agg (xbg e)] k=k [ints (xbt e)]:=xaa (fun k=>by
 obtain ⟨h1,h2⟩:=xhe h
 obtain ⟨hl,hs⟩:=xjG h2
 have e1:=xtQ e.Label (show e.Label.size<1000000000 by omega)
 have e2:=xb0 e.Label
 simp only [Qfx,un,cur0,e1,xaG,List.length_map,xaf,xbL,true_and,show (3:Nat)≤16777216 by omega,ints,xbd,e2,List.length_cons,List.length_nil,show e.Label.size+1+(0+1+1+1)<1073741824 by omega,xav,xdg,xai]
 refine xbI e.Path (fun i=>[strs e.Path,I e.Path.length,I i,.list 1 [],ints (xbJ e.Label++([e.Kind,e.Value,(e.Path.length:Int)]++xbK (e.Path.take i)))]) (by simp [ints,xbK]) (fun i x hx hi K=>?_) fun K=>?_
 ·have e3:=xtQ x (show x.size<1000000000 by have:=hs x (xbc hx);omega)
  have e4:xbK (e.Path.take (i+1))=xbK (e.Path.take i)++xbJ x:=by
   unfold xbK;rw [xa0 hx,List.flatMap_append];simp
  have e5:(xbK (e.Path.take i)).length≤2097152:=by
   rw [xdq]
   have:=xcX ByteArray.size e.Path i
   have:(e.Path.take i).length≤e.Path.length:=by simp;omega
   omega
  have e6:=xb0 x
  have e7:=hs x (xbc hx)
  rw [e4]
  generalize xbK (e.Path.take i)=A at e5
  simp [-getElem?_pos,Qfx_r0,hx,hi,e3,ints,xbd,e2,e6,xap (show i<1000000000000000000 by omega)]
  try (intros;omega)
 ·simp [Qfx_r0,xbt,ints]) k
theorem xtP (e:xaS) (h:xax e≤1048576) (k):call Qfy [.agg (xbg e)] k=k [I (xdo (227::xbt e))]:=xaa (fun k=>by
 have hl:=xfZ e
 have e1:=xvo e h
 have e2:=xmo (227::xbt e) (by simp;omega)
 have e3:PV.list 1 ([I 227]::(xbt e).map rI)=ints (227::xbt e):=by simp [ints]
 simp [Qfy,xbL,e1,xbd,show 1+(xbt e).length<1073741824 by omega]
 rw [e3,e2]
 simp
 try (intros;omega)) k
theorem xvQ (e:xaS) (h:xax e≤1048576) (k):call Qcw [.agg (xbg e)] k=k [ints (xbt e)]:=xaa (fun k=>by
 obtain ⟨h1,h2⟩:=xhe h
 obtain ⟨hl,hs⟩:=xjG h2
 have e1:=xtY e.Label (show e.Label.size<1000000000 by omega)
 have e2:=xb0 e.Label
 simp only [Qcw,un,cur0,e1,xaG,List.length_map,xaf,xbL,true_and,show (3:Nat)≤16777216 by omega,ints,xbd,e2,List.length_cons,List.length_nil,show e.Label.size+1+(0+1+1+1)<1073741824 by omega,xav,xdg,xai]
 refine xbI e.Path (fun i=>[I i,.str e.Label,I e.Kind,I e.Value,strs e.Path,.list 1 [],ints (xbJ e.Label++([e.Kind,e.Value,(e.Path.length:Int)]++xbK (e.Path.take i)))]) (by simp [ints,xbK]) (fun i x hx hi K=>?_) fun K=>?_
 ·have e3:=xtY x (show x.size<1000000000 by have:=hs x (xbc hx);omega)
  have e4:xbK (e.Path.take (i+1))=xbK (e.Path.take i)++xbJ x:=by
   unfold xbK;rw [xa0 hx,List.flatMap_append];simp
  have e5:(xbK (e.Path.take i)).length≤2097152:=by
   rw [xdq]
   have:=xcX ByteArray.size e.Path i
   have:(e.Path.take i).length≤e.Path.length:=by simp;omega
   omega
  have e6:=xb0 x
  have e7:=hs x (xbc hx)
  rw [e4]
  generalize xbK (e.Path.take i)=A at e5
  simp [-getElem?_pos,Qcw_r0,hx,hi,e3,ints,xbd,e2,e6,xap (show i<1000000000000000000 by omega)]
  try (intros;omega)
 ·simp [Qcw_r0,xbt,ints]) k
theorem xtX (e:xaS) (h:xax e≤1048576) (k):call Qcx [.agg (xbg e)] k=k [I (xdo (227::xbt e))]:=xaa (fun k=>by
 have hl:=xfZ e
 have e1:=xvQ e h
 have e2:=xmq (227::xbt e) (by simp;omega)
 have e3:PV.list 1 ([I 227]::(xbt e).map rI)=ints (227::xbt e):=by simp [ints]
 simp [Qcx,xbL,e1,xbd,show 1+(xbt e).length<1073741824 by omega]
 rw [e3,e2]
 simp
 try (intros;omega)) k
def xe1 (e:xaS):Int:=xdo (227::xbt e)
theorem xvn (l:List xaS) (h:xgk l≤1048576) (k):call Qfz [.one (.list 4 (l.map xbg))] k=k [ints (l.map xe1)]:=xaa (fun k=>by
 obtain ⟨hl,hx0⟩:=xeW h
 simp only [Qfz,xaG,List.length_map,xav,xdg,xai,true_and,show (0:Nat)≤16777216 by omega]
 refine xbI l (fun i=>[.list 4 (l.map xbg),I l.length,I i,.list 1 [],ints ((l.take i).map xe1)]) (by simp [ints]) (fun i x hx hi K=>?_) fun K=>?_
 ·have e:=xtP x (hx0 x (xbc hx))
  simp [-getElem?_pos,Qfz_r0,hx,hi,e,xbL,ints,xbd,xa0 hx,show i<1073741823 by omega,show min i l.length<1073741823 by omega,xe1,xap (show i<1000000000000000000 by omega)]
  try (intros;omega)
 ·simp [Qfz_r0]) k
theorem xvP (l:List xaS) (h:xgk l≤1048576) (k):call Qcy [.one (.list 4 (l.map xbg))] k=k [ints (l.map xe1)]:=xaa (fun k=>by
 obtain ⟨hl,hx0⟩:=xeW h
 simp only [Qcy,xaG,List.length_map,xav,xdg,xai,true_and,show (0:Nat)≤16777216 by omega]
 refine xbI l (fun i=>[.list 4 (l.map xbg),I i,.list 1 [],ints ((l.take i).map xe1)]) (by simp [ints]) (fun i x hx hi K=>?_) fun K=>?_
 ·have e:=xtX x (hx0 x (xbc hx))
  simp [-getElem?_pos,Qcy_r0,hx,hi,e,xbL,ints,xbd,xa0 hx,show i<1073741823 by omega,show min i l.length<1073741823 by omega,xe1,xap (show i<1000000000000000000 by omega)]
  try (intros;omega)
 ·simp [Qcy_r0]) k
def xhx (a b:Int):Int:=xdo [229,a,b]
def xbH:List Int→List Int
 | a::b::l=>xhx a b::xbH l
 | [a]=>[a]
 | []=>[]
theorem xdP:∀(n:Nat) (m r:List Int),m.length=2*n→xbH (m++r)=xbH m++xbH r
 | 0,[],r,_=>rfl
 | 0,_::_,r,h=>by simp at h
 | n+1,[],r,h=>by simp at h
 | n+1,[a],r,h=>by simp at h;omega
 | n+1,a::b::m,r,h=>by
  have:=xdP n m r (by simp at h;omega)
  simp [xbH,this]
theorem xdO:∀(l:List Int),(xbH l).length≤l.length∧(2≤l.length→(xbH l).length<l.length)∧(1≤l.length→1≤(xbH l).length)
 | []=>by simp [xbH]
 | [a]=>by simp [xbH]
 | a::b::l=>by
  have:=xdO l
  simp only [xbH,List.length_cons]
  omega
def xno:Nat→List Int→Int
 | 0,_=>0
 | n+1,l=>if 1<l.length then xno n (xbH l) else l.headD 0
def xtb (l:List Int):Int:=if l.length=0 then xdo [229] else xno (l.length+1) l
def xjE (l:List xaS):Int:=xdo [231,(l.length:Int),xtb (l.map xe1)]
theorem xtO (a b:Int) (k):call Qgb [.one (I a),.one (I b)] k=k [I (xhx a b)]:=xaa (fun k=>by
 have eh:∀(l:List Int),l.length<1000→∀k,call Qga [.one (ints l)] k=k [I (xdo l)]:=fun l hl=>xaa (fun k=>by simp [Qga,xmo l (by omega)])
 have e:=eh [229,a,b] (by simp)
 rw [show ints [229,a,b]=PV.list 1 [[I 229],[I a],[I b]] from rfl] at e
 simp [Qgb,xbL,e,xhx]) k
theorem xvm (l:List Int) (h:l.length≤1048576) (k):call Qgc [.one (ints l)] k=k [ints (xbH l)]:=xaa (fun k=>by
 simp only [Qgc,xav,xdg,xai,true_and,show (0:Nat)≤16777216 by omega]
 refine xoD ((l.length+1) / 2) (fun j=>[ints l,I ((2*j:Nat):Int),.list 1 [],ints (xbH (l.take (2*j)))]) (by simp [ints,xbH]) (fun j hj K=>?_) fun K=>?_
 ·have hlt:2*j<l.length:=by omega
  obtain ⟨x,hx⟩:∃x,l[2*j]? = some x:=⟨l[2*j],List.getElem?_eq_getElem hlt⟩
  have t1:l.take (2*j+1)=l.take (2*j)++[x]:=xa0 hx
  have hll:(l.take (2*j)).length=2*j:=by simp;omega
  have hA:(xbH (l.take (2*j))).length≤1048576:=by have:=(xdO (l.take (2*j))).1;omega
  have w1:IntKind.i64.wrap (((2*j:Nat):Int)+1)=((2*j+1:Nat):Int):=by rw [xcn (by omega) (by omega)];omega
  have w2:IntKind.i64.wrap (((2*j:Nat):Int)+2)=((2*(j+1):Nat):Int):=by rw [xcn (by omega) (by omega)];omega
  by_cases h2:2*j+1<l.length
  ·obtain ⟨y,hy⟩:∃y,l[2*j+1]? = some y:=⟨l[2*j+1],List.getElem?_eq_getElem h2⟩
   have t2:l.take (2*(j+1))=l.take (2*j)++[x,y]:=by
    rw [show 2*(j+1)=2*j+1+1 by omega,xa0 hy,t1];simp
   rw [t2,xdP j _ _ hll]
   generalize xbH (l.take (2*j))=A at hA
   simp only [Qgc_r0,un,cur0,xan,xbh,xaG,ints,List.length_map,xah,w1,w2,show decide (((2*j:Nat):Int)<(l.length:Int))=true by simp;omega,show decide (((2*j+1:Nat):Int)<(l.length:Int))=true by simp;omega,if_true,xaj,Int.toNat_natCast,List.getElem?_map,hx,hy,Option.map_some,show (0:Int)≤((2*j:Nat):Int) by omega,show (0:Int)≤((2*j+1:Nat):Int) by omega,true_and,xaf,xtO,xbL,xbd,List.length_cons,List.length_nil,show A.length+(0+1)<1073741824 by omega]
   simp [xbH]
  ·have t2:l.take (2*(j+1))=l.take (2*j)++[x]:=by
    rw [←t1,List.take_of_length_le (by omega),List.take_of_length_le (by omega)]
   rw [t2,xdP j _ _ hll]
   generalize xbH (l.take (2*j))=A at hA
   simp only [Qgc_r0,un,cur0,xan,xbh,xaG,ints,List.length_map,xah,w1,w2,show decide (((2*j:Nat):Int)<(l.length:Int))=true by simp;omega,show decide (((2*j+1:Nat):Int)<(l.length:Int))=false by simp;omega,if_true,Bool.false_eq_true,if_false,xaj,Int.toNat_natCast,List.getElem?_map,hx,Option.map_some,show (0:Int)≤((2*j:Nat):Int) by omega,true_and,xaf,xbL,xbd,List.length_cons,List.length_nil,show A.length+(0+1)<1073741824 by omega]
   simp [xbH]
 ·have:l.take (2*((l.length+1) / 2))=l:=List.take_of_length_le (by omega)
  rw [this]
  simp only [Qgc_r0,un,cur0,xan,xaG,ints,List.length_map,xah,show decide (((2*((l.length+1) / 2):Nat):Int)<(l.length:Int))=false by simp;omega]
  simp) k
theorem xrm (k:List PV→Prop):∀(n:Nat) (l:List Int),l.length<n→1≤l.length→l.length≤1048576→(lp (fun L w=>Qgd_r0 w L (fun q3 q4=>xaj 1 q3 (I 0) fun c5=>rt [.sc] [atP c5 0] k)) [ints l,I 0]↔k [I (xno n l)])
 | 0,l,h,_,_=>by omega
 | n+1,l,h,h1,h2=>by
  unfold xno
  by_cases hl:1<l.length
  ·have ha:=xdO l
   have ih:=xrm k n (xbH l) (by omega) (by omega) (by omega)
   rw [if_pos hl]
   refine (xcm fun K=>?_).trans ih
   have e:=xvm l h2
   simp [Qgd_r0,show (1:Int)<l.length by omega,e]
  ·rw [if_neg hl]
   refine xaE fun K=>?_
   match l,h1,hl with
   | [a],_,_=>simp [Qgd_r0,ints,xaj]
   | _::_::_,_,hl=>simp at hl
theorem xvl (l:List Int) (h:l.length≤1048576) (k):call Qgd [.one (ints l)] k=k [I (xtb l)]:=xaa (fun k=>by
 have eh:∀(l:List Int),l.length<1000→∀k,call Qga [.one (ints l)] k=k [I (xdo l)]:=fun l hl=>xaa (fun k=>by simp [Qga,xmo l (by omega)])
 unfold xtb
 by_cases h0:l.length=0
 ·have:l=[]:=List.eq_nil_of_length_eq_zero h0
  subst this
  have e:=eh [229] (by simp)
  rw [show ints [229]=PV.list 1 [[I 229]] from rfl] at e
  simp [Qgd,xbL,e]
 ·rw [if_neg h0]
  have e:=xrm k (l.length+1) l (by omega) (by omega) h
  rw [←e]
  simp [Qgd,show ¬(l.length:Int)=0 by omega,show ¬l=[] by (rintro rfl;simp at h0)]) k
theorem xtN (a b:Int) (k):call Qge [.one (I a),.one (I b)] k=k [I (xdo [231,a,b])]:=xaa (fun k=>by
 have eh:∀(l:List Int),l.length<1000→∀k,call Qga [.one (ints l)] k=k [I (xdo l)]:=fun l hl=>xaa (fun k=>by simp [Qga,xmo l (by omega)])
 have e:=eh [231,a,b] (by simp)
 rw [show ints [231,a,b]=PV.list 1 [[I 231],[I a],[I b]] from rfl] at e
 simp [Qge,xbL,e]) k
theorem xvk (l:List xaS) (h:xgk l≤1048576) (k):call Qgf [.one (.list 4 (l.map xbg))] k=k [I (xjE l)]:=xaa (fun k=>by
 have hl:=(xeW h).1
 have e1:=xvn l h
 have e2:=xvl (l.map xe1) (by simpa using hl)
 simp [Qgf,e1,e2,xtN,xjE]) k
theorem xtW (a b:Int) (k):call Qcz [.one (I a),.one (I b)] k=k [I (xhx a b)]:=xaa (fun k=>by
 have eh:∀(l:List Int),l.length<1000→∀k,call Qbu [.one (ints l)] k=k [I (xdo l)]:=fun l hl=>xmq l (by omega)
 have e:=eh [229,a,b] (by simp)
 rw [show ints [229,a,b]=PV.list 1 [[I 229],[I a],[I b]] from rfl] at e
 simp [Qcz,xbL,e,xhx]) k
theorem xvO (l:List Int) (h:l.length≤1048576) (k):call Qda [.one (ints l)] k=k [ints (xbH l)]:=xaa (fun k=>by
 simp only [Qda,xav,xdg,xai,true_and,show (0:Nat)≤16777216 by omega]
 refine xoD ((l.length+1) / 2) (fun j=>[ints l,I ((2*j:Nat):Int),.list 1 [],ints (xbH (l.take (2*j)))]) (by simp [ints,xbH]) (fun j hj K=>?_) fun K=>?_
 ·have hlt:2*j<l.length:=by omega
  obtain ⟨x,hx⟩:∃x,l[2*j]? = some x:=⟨l[2*j],List.getElem?_eq_getElem hlt⟩
  have t1:l.take (2*j+1)=l.take (2*j)++[x]:=xa0 hx
  have hll:(l.take (2*j)).length=2*j:=by simp;omega
  have hA:(xbH (l.take (2*j))).length≤1048576:=by have:=(xdO (l.take (2*j))).1;omega
  have w1:IntKind.i64.wrap (((2*j:Nat):Int)+1)=((2*j+1:Nat):Int):=by rw [xcn (by omega) (by omega)];omega
  have w2:IntKind.i64.wrap (((2*j:Nat):Int)+2)=((2*(j+1):Nat):Int):=by rw [xcn (by omega) (by omega)];omega
  by_cases h2:2*j+1<l.length
  ·obtain ⟨y,hy⟩:∃y,l[2*j+1]? = some y:=⟨l[2*j+1],List.getElem?_eq_getElem h2⟩
   have t2:l.take (2*(j+1))=l.take (2*j)++[x,y]:=by
    rw [show 2*(j+1)=2*j+1+1 by omega,xa0 hy,t1];simp
   rw [t2,xdP j _ _ hll]
   generalize xbH (l.take (2*j))=A at hA
   simp only [Qda_r0,un,cur0,xan,xbh,xaG,ints,List.length_map,xah,w1,w2,show decide (((2*j:Nat):Int)<(l.length:Int))=true by simp;omega,show decide (((2*j+1:Nat):Int)<(l.length:Int))=true by simp;omega,if_true,xaj,Int.toNat_natCast,List.getElem?_map,hx,hy,Option.map_some,show (0:Int)≤((2*j:Nat):Int) by omega,show (0:Int)≤((2*j+1:Nat):Int) by omega,true_and,xaf,xtW,xbL,xbd,List.length_cons,List.length_nil,show A.length+(0+1)<1073741824 by omega]
   simp [xbH]
  ·have t2:l.take (2*(j+1))=l.take (2*j)++[x]:=by
    rw [←t1,List.take_of_length_le (by omega),List.take_of_length_le (by omega)]
   rw [t2,xdP j _ _ hll]
   generalize xbH (l.take (2*j))=A at hA
   simp only [Qda_r0,un,cur0,xan,xbh,xaG,ints,List.length_map,xah,w1,w2,show decide (((2*j:Nat):Int)<(l.length:Int))=true by simp;omega,show decide (((2*j+1:Nat):Int)<(l.length:Int))=false by simp;omega,if_true,Bool.false_eq_true,if_false,xaj,Int.toNat_natCast,List.getElem?_map,hx,Option.map_some,show (0:Int)≤((2*j:Nat):Int) by omega,true_and,xaf,xbL,xbd,List.length_cons,List.length_nil,show A.length+(0+1)<1073741824 by omega]
   simp [xbH]
 ·have:l.take (2*((l.length+1) / 2))=l:=List.take_of_length_le (by omega)
  rw [this]
  simp only [Qda_r0,un,cur0,xan,xaG,ints,List.length_map,xah,show decide (((2*((l.length+1) / 2):Nat):Int)<(l.length:Int))=false by simp;omega]
  simp) k
theorem xrn (k:List PV→Prop):∀(n:Nat) (l:List Int),l.length<n→1≤l.length→l.length≤1048576→(lp (fun L w=>Qdb_r0 w L (fun q3 q4=>xaj 1 q4 (I 0) fun c5=>rt [.sc] [atP c5 0] k)) [I 0,ints l]↔k [I (xno n l)])
 | 0,l,h,_,_=>by omega
 | n+1,l,h,h1,h2=>by
  unfold xno
  by_cases hl:1<l.length
  ·have ha:=xdO l
   have ih:=xrn k n (xbH l) (by omega) (by omega) (by omega)
   rw [if_pos hl]
   refine (xcm fun K=>?_).trans ih
   have e:=xvO l h2
   simp [Qdb_r0,show (1:Int)<l.length by omega,e]
  ·rw [if_neg hl]
   refine xaE fun K=>?_
   match l,h1,hl with
   | [a],_,_=>simp [Qdb_r0,ints,xaj]
   | _::_::_,_,hl=>simp at hl
theorem xvN (l:List Int) (h:l.length≤1048576) (k):call Qdb [.one (ints l)] k=k [I (xtb l)]:=xaa (fun k=>by
 have eh:∀(l:List Int),l.length<1000→∀k,call Qbu [.one (ints l)] k=k [I (xdo l)]:=fun l hl=>xmq l (by omega)
 unfold xtb
 by_cases h0:l.length=0
 ·have:l=[]:=List.eq_nil_of_length_eq_zero h0
  subst this
  have e:=eh [229] (by simp)
  rw [show ints [229]=PV.list 1 [[I 229]] from rfl] at e
  simp [Qdb,xbL,e]
 ·rw [if_neg h0]
  have e:=xrn k (l.length+1) l (by omega) (by omega) h
  rw [←e]
  simp [Qdb,show ¬(l.length:Int)=0 by omega,show ¬l=[] by (rintro rfl;simp at h0)]) k
theorem xtV (a b:Int) (k):call Qdc [.one (I a),.one (I b)] k=k [I (xdo [231,a,b])]:=xaa (fun k=>by
 have eh:∀(l:List Int),l.length<1000→∀k,call Qbu [.one (ints l)] k=k [I (xdo l)]:=fun l hl=>xmq l (by omega)
 have e:=eh [231,a,b] (by simp)
 rw [show ints [231,a,b]=PV.list 1 [[I 231],[I a],[I b]] from rfl] at e
 simp [Qdc,xbL,e]) k
theorem xvM (l:List xaS) (h:xgk l≤1048576) (k):call Qdd [.one (.list 4 (l.map xbg))] k=k [I (xjE l)]:=xaa (fun k=>by
 have hl:=(xeW h).1
 have e1:=xvP l h
 have e2:=xvN (l.map xe1) (by simpa using hl)
 simp [Qdd,e1,e2,xtV,xjE]) k
theorem xoM {l:List xag} {p:xa7} (h:xe2 l=some p):xaM l=true∧∃s,l[l.length-1]? = some s∧s.Head=p:=by
 unfold xe2 at h
 split at h
 ·rename_i hc
  obtain ⟨s,hs,hp⟩:=Option.map_eq_some_iff.1 h
  exact ⟨hc,s,hs,hp⟩
 ·cases h
theorem xnx {l:List xag} (h:xe2 l=none):xaM l=false:=by
 unfold xe2 at h
 cases hc:xaM l with
 | false=>rfl
 | true =>
  obtain ⟨p,hp,_⟩:=xeJ hc
  rw [hc,if_pos rfl,hp] at h;cases h
theorem xmW {α:Type} (p:α→Bool):∀(l:List α) (i:Nat),xeH p i l=-1∨((i:Int)≤xeH p i l∧xeH p i l<(i:Int)+l.length)
 | [],i=>.inl rfl
 | x::l,i=>by
  unfold xeH
  split
  ·right;simp;omega
  ·rcases xmW p l (i+1) with h | ⟨h1,h2⟩
   ·exact .inl h
   ·right;rw [List.length_cons];omega
theorem xkY {α:Type} (p:Nat→α→Bool):∀(i:Nat) (l:List α),xj1 p i l<0→∀j x,l[j]? = some x→p (i+j) x=false
 | i,[],_,j,x,hx=>by simp at hx
 | i,y::l,h,j,x,hx=>by
  rw [xj1] at h
  split at h
  ·omega
  ·rename_i hp
   cases j with
   | zero=>simp at hx;subst hx;simpa using hp
   | succ j =>
    have:=xkY p (i+1) l h j x (by simpa using hx)
    rwa [show i+(j+1)=i+1+j by omega]
theorem xqf {p:xa7} {s:xag} (h:xnp p s=true):xcu s.Head=true:=by
 unfold xnp xod at h
 cases h1:xcu s.Head with
 | true=>rfl
 | false=>rw [h1] at h;cases h2:xcu p<;>simp [h2] at h
theorem xoN {l:List xag} {p:xa7} (h:xe2 l=some p):xcu p=true:=by
 obtain ⟨hc,s,hs,rfl⟩:=xoM h
 unfold xaM at hc
 simp only [Bool.and_eq_true,decide_eq_true_eq] at hc
 have:=xkY (xe5 l) 0 l hc.2 (l.length-1) s hs
 unfold xe5 at this
 split at this
 ·have h2:xcG s=true:=by simpa using this
  unfold xcG at h2
  simp only [Bool.and_eq_true] at h2
  exact h2.1
 ·split at this
  ·exact xqf (by simpa using this)
  ·cases this
theorem xhP {l:List xag} {p:xa7} (h:xe2 l=some p):(0≤p.Count∧p.Count≤12)∧0≤p.Zone:=by
 have:=xoN h
 unfold xcu inR at this
 simp only [Bool.and_eq_true,decide_eq_true_eq] at this
 omega
abbrev xdL (l:List xag):List PV:=[.list 17 (l.map xal)]
theorem xka {x:IntKind} {m n:Int} {k:PV→Prop}:xac .xor (.int x m) (.int x n) k=k (.int x (x.wrap ((BitVec.ofInt x.bits m ^^^ BitVec.ofInt x.bits n).toNat:Int))):=by simp [xac]
theorem xsa {α:Type} {l m r s:List α} (h:l.length=m.length):l++r=m++s↔l=m∧r=s :=
 ⟨fun e=>List.append_inj e h,fun ⟨a,b⟩=>by rw [a,b]⟩
theorem xkL {a b:xbV} {r s:List Int}:xaY a++r=xaY b++s↔a=b∧r=s:=by
 obtain ⟨l,n⟩:=a
 obtain ⟨m,q⟩:=b
 simp only [xaY,List.cons_append,List.cons.injEq,xbV.mk.injEq]
 constructor
 ·rintro ⟨rfl,h1,h2⟩
  obtain ⟨rfl,rfl⟩:=(xsa (by omega)).1 h2
  exact ⟨⟨rfl,rfl⟩,rfl⟩
 ·rintro ⟨⟨rfl,rfl⟩,rfl⟩;exact ⟨rfl,rfl,rfl⟩
theorem xqC {a b:Bool}:xqD a=xqD b↔a=b:=by cases a<;>cases b<;>simp [xqD]
theorem xgM {a b:xa7}:xaW a=xaW b↔a=b:=by
 obtain ⟨a1,a2,a3,a4,a5,a6,a7,a8,a9,a10,a11,a12,a13⟩:=a
 obtain ⟨b1,b2,b3,b4,b5,b6,b7,b8,b9,b10,b11,b12,b13⟩:=b
 simp only [xaW,List.cons_append,List.nil_append,List.cons.injEq,xkL,xqC,xa7.mk.injEq,and_true]
theorem xqP (a b:xa7) (h:xbu a≤1048576) (h':xbu b≤1048576) (k):call Qjp [.agg (xbo a),.agg (xbo b)] k=k [.bool (decide (a=b))]:=xaa (fun k=>by
 have i1:=xqS a h
 have i2:=xqS b h'
 have hl:=xc3 a
 have e:=xsy (xaW a) (xaW b) (by omega)
 unfold xbu at h
 have k1:=xmn a.Keys b.Keys (by omega)
 have k2:=xmn a.Heirs b.Heirs (by omega)
 have k3:=xmn a.Judge b.Judge (by omega)
 simp only [Qjp,un,cur0,k1,k2,k3,i1,i2,e,xaf,xah,xav,xam,xai,xar,true_and,and_true,xgM]
 by_cases hk:a=b
 ·subst hk;simp
 ·simp [hk]) k
theorem xqR (a b:xa7) (h:xbu a≤1048576) (h':xbu b≤1048576) (k):call Qhr [.agg (xbo a),.agg (xbo b)] k=k [.bool (decide (a=b))]:=xaa (fun k=>by
 have i1:=xpC a h
 have i2:=xpC b h'
 have hl:=xc3 a
 have e:=xsI (xaW a) (xaW b) (by omega)
 simp only [Qhr,un,cur0,i1,i2,e,xaf,xah,xen,xav,xam,xai,xar,true_and,and_true,xgM]
 by_cases hk:a=b
 ·subst hk;simp
 ·simp [hk]) k
abbrev sigs (l:List xfD):PV:=.list 2 (l.map xck)
theorem xuV (l m:List xfD) (h:l.length<1073741824) (k):call Qju [.one (sigs l),.one (sigs m)] k=k [.bool (decide (l=m))]:=xaa (fun k=>by
 simp [Qju]
 by_cases hl:l.length=m.length
 ·rw [←xeR]
  simp [hl]
  refine xgl k l m (fun i=>[sigs l,sigs m,.bool false,I m.length,I i]) eqD rfl hl (fun i x y hx hy hi hj K=>?_) fun K=>?_
  ·obtain ⟨a,b⟩:=x
   obtain ⟨c,d⟩:=y
   simp [-getElem?_pos,Qju_r0,hx,hy,hj,xap (show i<1000000000000000000 by omega),xsc,sames,PV.same,xeh,xjS]
  ·simp [Qju_r0,hl]
 ·simp [show ¬(l.length:Int)=m.length by omega,xja hl]) k
theorem xuU (a b:xag) (h:xau a≤1048576) (h':xau b≤1048576) (k):call Qjv [.agg (xal a),.agg (xal b)] k=k [.bool (decide (a=b))]:=xaa (fun k=>by
 unfold xau at h h'
 have e1:=xqP a.Head b.Head (by omega) (by omega)
 have e2:=xuV a.Sigs b.Sigs (by omega)
 obtain ⟨x,l⟩:=a
 obtain ⟨y,m⟩:=b
 simp only at e1 e2
 simp only [Qjv,un,cur0,e1,e2,xaf,xah,xav,xam,xai,xar,true_and,and_true,xag.mk.injEq,Bool.decide_and]
 by_cases hk:x=y<;>simp [hk]) k
theorem xu4 (a b:xag) (h:xau a≤1048576) (h':xau b≤1048576) (k):call Qih [.agg (xal a),.agg (xal b)] k=k [.bool (decide (a=b))]:=xaa (fun k=>by
 unfold xau at h h'
 have e1:=xqR a.Head b.Head (by omega) (by omega)
 obtain ⟨x,l⟩:=a
 obtain ⟨y,m⟩:=b
 simp only at e1 h h'
 simp only [Qih,un,cur0,e1,xaf,xah,xav,xam,xai,xar,true_and,and_true,xag.mk.injEq,Bool.decide_and]
 by_cases hk:x=y
 ·subst hk
  simp
  by_cases hl:l.length=m.length
  ·rw [←xeR]
   simp [hl]
   refine xgl k l m (fun i=>[.bool false,I i]++xbo x++[sigs m]++xbo x++[sigs l]) eqD rfl hl (fun i x y hx hy hi hj K=>?_) fun K=>?_
   ·obtain ⟨a,b⟩:=x
    obtain ⟨c,d⟩:=y
    simp [-getElem?_pos,Qih_r0,hx,hy,hi,xap (show i<1000000000000000000 by omega),xsc,sames,PV.same,xeh,xjS]
   ·simp [Qih_r0,hl]
  ·simp [show ¬(l.length:Int)=m.length by omega,xja hl]
 ·simp [hk]) k
theorem xu8 (l m:List ByteArray) (h:l.length+xbn ByteArray.size l≤1048576) (h':m.length+xbn ByteArray.size m≤1048576) (k):call Qhz [.one (.list 1 (l.map rS)),.one (.list 1 (m.map rS))] k=k [.bool (decide (l=m))]:=xaa (fun k=>by
 simp [Qhz]
 by_cases hl:l.length=m.length
 ·rw [←xeR]
  simp [hl]
  refine xgl k l m (fun i=>[.list 1 (l.map rS),.list 1 (m.map rS),.bool false,I i]) eqD rfl hl (fun i x y hx hy hi hj K=>?_) fun K=>?_
  ·have s1:=xbO (s:=ByteArray.size) (xbc hx)
   have s2:=xbO (s:=ByteArray.size) (xbc hy)
   simp [-getElem?_pos,Qhz_r0,hx,hy,hi,xap (show i<1000000000000000000 by omega)]
   all_goals (by_cases hxy:x=y<;>simp [hxy])
  ·simp [Qhz_r0]
 ·simp [show ¬(l.length:Int)=m.length by omega,xja hl]) k
theorem xu0 (l m:List ByteArray) (h:l.length<1073741824) (k):call Qjc [.one (strs l),.one (strs m)] k=k [.bool (decide (l=m))]:=xaa (fun k=>by
 simp [Qjc]
 by_cases hl:l.length=m.length
 ·rw [←xeR]
  simp [hl]
  refine xgl k l m (fun i=>[strs l,strs m,.bool false,I m.length,I i]) eqD rfl hl (fun i x y hx hy hi hj K=>?_) fun K=>?_
  ·simp [-getElem?_pos,Qjc_r0,hx,hy,hj,xap (show i<1000000000000000000 by omega)]
   all_goals (by_cases hxy:x=y<;>simp [hxy])
  ·simp [Qjc_r0,hl]
 ·simp [show ¬(l.length:Int)=m.length by omega,xja hl]) k
theorem xsm (a b:xaS) (h:xax a≤1048576) (h':xax b≤1048576) (k):call Qjd [.agg (xbg a),.agg (xbg b)] k=k [.bool (decide (a=b))]:=xaa (fun k=>by
 unfold xax at h h'
 obtain ⟨a1,a2,a3,l⟩:=a
 obtain ⟨b1,b2,b3,m⟩:=b
 simp only at h h'
 have e:=xu0 l m (by omega)
 simp [Qjd,e]
 by_cases h1:a1=b1<;>by_cases h2:a2=b2<;>by_cases h3:a3=b3<;>simp [h1,h2,h3]) k
theorem xsp (a b:xaS) (h:xax a≤1048576) (h':xax b≤1048576) (k):call Qia [.agg (xbg a),.agg (xbg b)] k=k [.bool (decide (a=b))]:=xaa (fun k=>by
 unfold xax at h h'
 obtain ⟨a1,a2,a3,l⟩:=a
 obtain ⟨b1,b2,b3,m⟩:=b
 simp only at h h'
 have e:=xu8 l m (by omega) (by omega)
 simp [Qia,e]
 by_cases h1:a1=b1<;>by_cases h2:a2=b2<;>by_cases h3:a3=b3<;>simp [h1,h2,h3]) k
theorem xsl (a b:xce) (h:xba a≤1048576) (h':xba b≤1048576) (k):call Qje [.agg (xcC a),.agg (xcC b)] k=k [.bool (decide (a=b))]:=xaa (fun k=>by
 unfold xba at h h'
 obtain ⟨a1,l⟩:=a
 obtain ⟨b1,m⟩:=b
 simp only at h h'
 have e:=xsy l m (by omega)
 simp [Qje,e]
 by_cases h1:a1=b1<;>simp [h1]) k
theorem xuZ (a b:xkh) (h:xgI a≤1048576) (h':xgI b≤1048576) (k):call Qjf [.agg (xlb a),.agg (xlb b)] k=k [.bool (decide (a=b))]:=xaa (fun k=>by
 unfold xgI at h h'
 obtain ⟨a1,a2,a3,a4,a5⟩:=a
 obtain ⟨b1,b2,b3,b4,b5⟩:=b
 simp only at h h'
 have e2:=xsm a2 b2 (by omega) (by omega)
 have e3:=xsm a3 b3 (by omega) (by omega)
 have e4:=xsl a4 b4 (by omega) (by omega)
 have e5:=xsl a5 b5 (by omega) (by omega)
 simp [Qjf,e2,e3,e4,e5]
 by_cases h1:a1=b1<;>by_cases h2:a2=b2<;>by_cases h3:a3=b3<;>by_cases h4:a4=b4<;>simp [h1,h2,h3,h4]) k
theorem xso (a b:xce) (h:xba a≤1048576) (h':xba b≤1048576) (k):call Qib [.agg (xcC a),.agg (xcC b)] k=k [.bool (decide (a=b))]:=xaa (fun k=>by
 unfold xba at h h'
 obtain ⟨a1,l⟩:=a
 obtain ⟨b1,m⟩:=b
 simp only at h h'
 have e:=xsI l m (by omega)
 simp [Qib,e]
 by_cases h1:a1=b1<;>simp [h1]) k
theorem xu7 (a b:xkh) (h:xgI a≤1048576) (h':xgI b≤1048576) (k):call Qic [.agg (xlb a),.agg (xlb b)] k=k [.bool (decide (a=b))]:=xaa (fun k=>by
 unfold xgI at h h'
 obtain ⟨a1,a2,a3,a4,a5⟩:=a
 obtain ⟨b1,b2,b3,b4,b5⟩:=b
 simp only at h h'
 have e2:=xsp a2 b2 (by omega) (by omega)
 have e3:=xsp a3 b3 (by omega) (by omega)
 have e4:=xso a4 b4 (by omega) (by omega)
 have e5:=xso a5 b5 (by omega) (by omega)
 simp [Qic,e2,e3,e4,e5]
 by_cases h1:a1=b1<;>by_cases h2:a2=b2<;>by_cases h3:a3=b3<;>by_cases h4:a4=b4<;>simp [h1,h2,h3,h4]) k
def xrM (m:List xag) (i:Nat) (x:xag):Bool:=match m[i]? with | some y=>!decide (x.Head=y.Head) | none=>true
def xiu (l m:List xag):Bool:=decide (l.length≤m.length)&&(xff (xrM m) 0 l==false)
theorem xg8 {l:List xag} {x:xag} (h:xaq l≤1048576) (hx:x∈l):xbu x.Head≤1048576:=by
 unfold xaq at h
 have:=xbO (s:=xau) hx
 have e:xau x=xbu x.Head+x.Sigs.length:=rfl
 omega
theorem xmO {l:List xag} (h:xaq l≤1048576):l.length≤1048576:=by unfold xaq at h;omega
theorem xu3 (l:List xag) (h:xaq l≤1048576) (k):call Qiy [.one (.list 17 (l.map xal))] k=k (xe3 (xe2 l)):=xaa (fun k=>by
 obtain ⟨hl,hx0⟩:=xbZ h
 have e:=xpA l h
 unfold xe2
 cases hc:xaM l with
 | false=>simp [Qiy,e,hc,xe3,xek,ints]
 | true =>
  obtain ⟨p,hp,h0⟩:=xeJ hc
  have e2:=xvs l p hl hp
  have e3:=xtU p.Head (xa1 (hx0 p (xbc hp))).1
  simp [-getElem?_pos,Qiy,e,hc,e2,e3,xe3,hp]) k
def sTF:Nat→Int→Nat→Nat→List Int→Option Int
 | 0,_,_,_,_=>none
 | f+1,leaf,i,n,path=>if 1<n then
  (if i % 2=1∨i+1<n then (match path with | []=>none | p::r=>sTF f (if i % 2=1 then xhx p leaf else xhx leaf p) (i / 2) ((n+1) / 2) r)
   else sTF f leaf (i / 2) ((n+1) / 2) path)
  else (match path with | []=>some leaf | _::_=>none)
def xiB:Option Int→List PV
 | some t=>[I t,.bool true]
 | none=>[I 0,.bool false]
theorem tmod2 (i:Nat):(i:Int).tmod 2=((i % 2:Nat):Int):=(Int.ofNat_tmod i 2).symm
theorem wdiv2 (i:Nat) (h:i<1000):IntKind.i64.wrap ((i:Int).tdiv 2)=((i / 2:Nat):Int):=by
 rw [show (i:Int).tdiv 2=((i / 2:Nat):Int) from (Int.ofNat_tdiv i 2).symm]
 exact xcn (by omega) (by omega)
theorem wsucc (i:Nat) (h:i<1000):IntKind.i64.wrap ((i:Int)+1)=((i+1:Nat):Int):=by rw [xcn (by omega) (by omega)];omega
theorem xlM (i:Nat):decide (((i % 2:Nat):Int)=1)=decide (i % 2=1):=by apply decide_eq_decide.2;omega
theorem xqe (i:Nat):decide (((i % 2:Nat):Int)=0)=!decide (i % 2=1):=by
 by_cases h:i % 2=1
 ·simp [h]
 ·have:i % 2=0:=by omega
  simp [this]
theorem xgb (k:List PV→Prop) (path:List Int) (hp:path.length≤1048576):∀(f:Nat) (leaf:Int) (i n used:Nat),n<f→n≤12→i≤12→used≤path.length →
 (lp (fun L w=>Qhx_r0 w L (k [I 0,.bool false]) fun q40 q41 q42 q43 q44 q45 q46=>xaH q43 fun r47=>xac .neq q46 r47 fun r48=>xad r48 (k [I 0,.bool false]) (rt [.sc,.sc] [q40,.bool true] k)) [I leaf,I i,I n,ints path,I 0,.bool false,I used]↔k (xiB (sTF f leaf i n (path.drop used))))
 | 0,_,_,_,_,h,_,_,_=>by omega
 | f+1,leaf,i,n,used,h,hn,hi,hu=>by
  unfold sTF
  by_cases h1:1<n
  ·rw [if_pos h1]
   by_cases hc:i % 2=1∨i+1<n
   ·rw [if_pos hc]
    by_cases he:used=path.length
    ·rw [List.drop_of_length_le (by omega)]
     refine xaE fun K=>?_
     subst he
     simp only [Qhx_r0,un,cur0,xb3,xcP,xaD,xb4,xbh,xan,xdZ,tmod2,xlM,wsucc i (by omega),xaG,List.length_map,xah,show decide ((1:Int)<n)=true by simp;omega,if_true]
     rcases hc with hc | hc
     ·simp [hc,xiB]
     ·by_cases ho:i % 2=1
      ·simp [ho,xiB]
      ·simp [ho,show ((i+1:Nat):Int)<n by omega,xiB]
       intro h;omega
    ·obtain ⟨p,hx⟩:∃p,path[used]? = some p:=⟨path[used],List.getElem?_eq_getElem (by omega)⟩
     have hd:path.drop used=p::path.drop (used+1):=by
      rw [List.drop_eq_getElem_cons (by omega)]
      congr 1
      rw [List.getElem?_eq_getElem (by omega)] at hx
      injection hx
     rw [hd]
     simp only
     refine (xcm fun K=>?_).trans (xgb k path hp f (if i % 2=1 then xhx p leaf else xhx leaf p) (i / 2) ((n+1) / 2) (used+1) (by omega) (by omega) (by omega) (by omega))
     simp only [Qhx_r0,un,cur0,xb3,xcP,xf5,xaD,xb4,xbh,xan,xdZ,tmod2,xlM,wsucc i (by omega),wsucc n (by omega),wdiv2 i (by omega),wdiv2 (n+1) (by omega),xap (show used<1000000000000000000 by omega),xaG,List.length_map,xah,show decide ((1:Int)<n)=true by simp;omega,show decide (((path.length:Nat):Int)≤used)=false by simp;omega,if_true,xaj,Int.toNat_natCast,List.getElem?_map,hx,Option.map_some,show (0:Int)≤used by omega,true_and,xaf,xtW]
     by_cases ho:i % 2=1
     ·simp [ho]
     ·rcases hc with hc | hc
      ·exact absurd hc ho
      ·simp [ho,show ((i+1:Nat):Int)<n by omega]
       omega
   ·rw [if_neg hc]
    refine (xcm fun K=>?_).trans (xgb k path hp f leaf (i / 2) ((n+1) / 2) used (by omega) (by omega) (by omega) hu)
    simp only [Qhx_r0,un,cur0,xb3,xcP,xf5,xaD,xb4,xbh,xan,xdZ,tmod2,xlM,wsucc i (by omega),wsucc n (by omega),wdiv2 i (by omega),wdiv2 (n+1) (by omega),xaG,List.length_map,xah,show decide ((1:Int)<n)=true by simp;omega,if_true]
    have ho:¬i % 2=1:=fun h=>hc (.inl h)
    have hl:¬((i+1:Nat):Int)<n:=by intro h;exact hc (.inr (by omega))
    simp only [ho,hl,decide_false,Bool.false_eq_true,if_false]
    simp
  ·rw [if_neg h1]
   refine xaE fun K=>?_
   simp only [Qhx_r0,un,cur0,xb3,xbM,bne,xdZ,xaG,List.length_map,xah,show decide ((1:Int)<n)=false by simp;omega,Bool.false_eq_true,if_false,xav,xam,xai,xao,xar,true_and,and_true]
   by_cases he:used=path.length
   ·rw [List.drop_of_length_le (by omega)]
    simp [he,xiB]
   ·rw [List.drop_eq_getElem_cons (by omega)]
    simp [show ¬(used:Int)=path.length by omega,xiB]
def xd3 (leaf at_ count:Int) (path:List Int):Option Int:=if (inR count 1 12&&inR at_ 0 (count-1))=true then sTF 13 leaf at_.toNat count.toNat path else none
theorem xu9 (leaf at_ count:Int) (path:List Int) (hp:path.length≤1048576) (k):call Qhx [.one (I leaf),.one (I at_),.one (I count),.one (ints path)] k=k (xiB (xd3 leaf at_ count path)):=xaa (fun k=>by
 unfold xd3
 cases h1:inR count 1 12 with
 | false=>simp [Qhx,xeo,h1,xiB]
 | true =>
  have b1:1≤count∧count≤12:=by unfold inR at h1;simpa using h1
  have w:IntKind.i64.wrap (count-1)=count-1:=xcn (by omega) (by omega)
  cases h2:inR at_ 0 (count-1) with
  | false=>simp [Qhx,xeo,h1,w,h2,xiB]
  | true =>
   have b2:0≤at_∧at_≤count-1:=by unfold inR at h2;simpa using h2
   have e:=xgb k path hp 13 leaf at_.toNat count.toNat 0 (by omega) (by omega) (by omega) (by omega)
   rw [show ((at_.toNat:Nat):Int)=at_ by omega,show ((count.toNat:Nat):Int)=count by omega] at e
   simp only [Bool.and_self,if_true,List.drop_zero] at e ⊢
   rw [←e]
   simp only [Qhx,xeo,h1,h2,w,xbP,xa8,xaf,xah,Bool.not_true,Bool.false_eq_true,if_false,xav,xam,xai,xao,xar,true_and]
   exact Iff.rfl) k
theorem xor1:∀i:Nat,i<13→IntKind.i64.wrap ((BitVec.ofInt IntKind.i64.bits (i:Int) ^^^ BitVec.ofInt IntKind.i64.bits 1).toNat:Int)=if i % 2=1 then (i:Int)-1 else (i:Int)+1:=by decide +kernel
theorem xgq (k:List PV→Prop):∀(f:Nat) (leaf:Int) (i n:Nat) (path:List Int),n<f→n≤12→i<n∨n≤1→i≤12→path.length≤1048576 →
 (lp (fun L w=>Qja_r0 w L (k [I 0,.bool false]) fun q24 q25 q26 q27 q28 q29=>xaH q27 fun r30=>xac .gtr r30 (I 0) fun r31=>xad r31 (k [I 0,.bool false]) (rt [.sc,.sc] [q24,.bool true] k)) [I leaf,I i,I n,ints path,I 0,.bool false]↔k (xiB (sTF f leaf i n path)))
 | 0,_,_,_,_,h,_,_,_,_=>by omega
 | f+1,leaf,i,n,path,h,hn,hin,hi,hp=>by
  unfold sTF
  by_cases h1:1<n
  ·rw [if_pos h1]
   have hx:decide ((n:Int)≤if i % 2=1 then (i:Int)-1 else (i:Int)+1)=!decide (i % 2=1∨i+1<n):=by
    by_cases ho:i % 2=1
    ·rw [if_pos ho];simp [ho];omega
    ·rw [if_neg ho]
     by_cases hl:i+1<n
     ·simp [ho,hl];omega
     ·simp [ho,hl];omega
   by_cases hc:i % 2=1∨i+1<n
   ·rw [if_pos hc]
    match path with
    | [] =>
     refine xaE fun K=>?_
     simp only [Qja_r0,un,cur0,xb3,xka,xor1 i (by omega),xb4,hx,hc,decide_true,Bool.not_true,Bool.false_eq_true,if_false,xaG,List.length_map,List.length_nil,xaD,xdZ,xah,show decide ((1:Int)<n)=true by simp;omega,if_true]
     simp [xiB]
    | p::r =>
     simp only
     refine (xcm fun K=>?_).trans (xgq k f (if i % 2=1 then xhx p leaf else xhx leaf p) (i / 2) ((n+1) / 2) r (by omega) (by omega) (by omega) (by omega) (by simp at hp;omega))
     simp only [Qja_r0,un,cur0,xb3,xka,xor1 i (by omega),xb4,hx,hc,decide_true,Bool.not_true,Bool.false_eq_true,if_false,xaG,List.length_map,List.length_cons,xaD,xcP,xf5,xbh,xdZ,tmod2,xqe,wsucc n (by omega),wdiv2 i (by omega),wdiv2 (n+1) (by omega),xah,show decide ((1:Int)<n)=true by simp;omega,if_true,show decide (((r.length+1:Nat):Int)=0)=false by simp;omega,ints,List.map_cons,xaj,show ((0:Int)).toNat=0 from rfl,List.getElem?_cons_zero,show (0:Int)≤0 by omega,true_and,xaf,xtO,xg6,xf8]
     by_cases ho:i % 2=1<;>simp [ho,List.take_of_length_le]
   ·rw [if_neg hc]
    refine (xcm fun K=>?_).trans (xgq k f leaf (i / 2) ((n+1) / 2) path (by omega) (by omega) (by omega) (by omega) hp)
    simp only [Qja_r0,un,cur0,xb3,xka,xor1 i (by omega),xb4,hx,hc,decide_false,Bool.not_false,if_true,xaG,List.length_map,xf5,xbh,wsucc n (by omega),wdiv2 i (by omega),wdiv2 (n+1) (by omega),xah,show decide ((1:Int)<n)=true by simp;omega]
    simp
  ·rw [if_neg h1]
   refine xaE fun K=>?_
   simp only [Qja_r0,un,cur0,xb3,xaG,List.length_map,xah,show decide ((1:Int)<n)=false by simp;omega,Bool.false_eq_true,if_false,xav,xam,xai,xao,xar,true_and,and_true]
   match path with
   | []=>simp [xiB]
   | p::r=>simp [xiB]
theorem xu1 (leaf at_ count:Int) (path:List Int) (hp:path.length≤1048576) (k):call Qja [.one (I leaf),.one (I at_),.one (I count),.one (ints path)] k=k (xiB (xd3 leaf at_ count path)):=xaa (fun k=>by
 unfold xd3
 by_cases c1:count<1
 ·have:inR count 1 12=false:=by unfold inR;simp;omega
  simp [Qja,c1,this,xiB]
 by_cases c2:12<count
 ·have:inR count 1 12=false:=by unfold inR;simp;omega
  simp [Qja,c1,c2,this,xiB]
 have h1:inR count 1 12=true:=by unfold inR;simp;omega
 have w:IntKind.i64.wrap (count-1)=count-1:=xcn (by omega) (by omega)
 cases h2:inR at_ 0 (count-1) with
 | false=>simp [Qja,xdn,c1,c2,w,h2,xiB]
 | true =>
  have b2:0≤at_∧at_≤count-1:=by unfold inR at h2;simpa using h2
  have e:=xgq k 13 leaf at_.toNat count.toNat path (by omega) (by omega) (by omega) (by omega) hp
  rw [show ((at_.toNat:Nat):Int)=at_ by omega,show ((count.toNat:Nat):Int)=count by omega] at e
  simp only [h1,Bool.and_self,if_true]
  rw [←e]
  simp only [Qja,xdn,xan,xb3,h2,w,xbP,xa8,xaf,xah,c1,c2,decide_false,Bool.not_true,Bool.false_eq_true,if_false,xav,xam,xai,xao,xar,true_and]) k
def xaO:xaS:=⟨⟨#[]⟩,0,0,[]⟩
def xef:xce:=⟨0,[]⟩
def xpL:xkh:=⟨0,xaO,xaO,xef,xef⟩
def xhw (e:xaS) (p:xce):Bool:=decide (e=xaO)&&decide (p=xef)
def xa2 (root count:Int) (e:xaS) (p:xce):Bool:=xcq e&&(match xd3 (xe1 e) p.At count p.Path with | some t=>decide (xdo [231,count,t]=root) | none=>false)
theorem xtI (root count:Int) (e:xaS) (p:xce) (h:xax e≤1048576) (hp:xba p≤1048576) (k):call Qjb [.one (I root),.one (I count),.agg (xbg e),.agg (xcC p)] k=k [.bool (xa2 root count e p)]:=xaa (fun k=>by
 unfold xba at hp
 have e1:=xtP e h
 have e2:=xvr e h
 have e3:=xu1 (xe1 e) p.At count p.Path hp
 have e1':∀k,call Qfy [.agg (xbg e)] k=k [I (xe1 e)]:=e1
 unfold xa2
 cases ht:xd3 (xe1 e) p.At count p.Path with
 | none =>
  rw [ht] at e3
  simp only [Qjb,un,cur0,e1',e2,e3,xiB,xaf,xbl,xah,xav,xam,xai,xar,true_and]
  cases xcq e<;>simp
 | some t =>
  rw [ht] at e3
  simp only [Qjb,un,cur0,e1',e2,e3,xiB,xaf,xbl,xtN,xaD,xdZ,xah,xav,xam,xai,xar,true_and]
  cases xcq e<;>simp) k
theorem xsq (root count:Int) (e:xaS) (p:xce) (h:xax e≤1048576) (hp:xba p≤1048576) (k):call Qhy [.one (I root),.one (I count),.agg (xbg e),.agg (xcC p)] k=k [.bool (xa2 root count e p)]:=xaa (fun k=>by
 unfold xba at hp
 have e1:=xtX e h
 have e2:=xvT e h
 have e3:=xu9 (xe1 e) p.At count p.Path hp
 have e1':∀k,call Qcx [.agg (xbg e)] k=k [I (xe1 e)]:=e1
 unfold xa2
 cases ht:xd3 (xe1 e) p.At count p.Path with
 | none =>
  rw [ht] at e3
  simp only [Qhy,un,cur0,e1',e2,e3,xiB,xaf,xbl,xah,xav,xam,xai,xar,true_and]
  cases xcq e<;>simp
 | some t =>
  rw [ht] at e3
  simp only [Qhy,un,cur0,e1',e2,e3,xiB,xaf,xbl,xtV,xaD,xdZ,xah,xav,xam,xai,xar,true_and]
  cases xcq e<;>simp) k
theorem mz:xax xaO≤1048576∧xba xef≤1048576∧xgI xpL≤1048576:=by decide
theorem xsn (e:xaS) (p:xce) (h:xax e≤1048576) (hp:xba p≤1048576) (k):call Qid [.agg (xbg e),.agg (xcC p)] k=k [.bool (xhw e p)]:=xaa (fun k=>by
 have e1:=xsp e xaO h mz.1
 have e2:=xso p xef hp mz.2.1
 simp only [Qid,un,cur0]
 rw [show [PV.str ⟨#[]⟩,I 0,I 0,PV.list 1 []]=xbg xaO from rfl,show [I 0,PV.list 1 []]=xcC xef from rfl]
 simp only [e1,e2,xaf,xah,xav,xam,xai,xar,true_and]
 exact xb5 fun _=>Iff.rfl) k
theorem xtH (e:xaS) (h:xax e≤1048576) (k):call Qjg [.agg (xbg e)] k=k [.bool (decide (e=xaO))]:=xaa (fun k=>by
 have e1:=xsm e xaO h mz.1
 simp only [Qjg,un,cur0]
 rw [show [PV.str ⟨#[]⟩,I 0,I 0,PV.list 1 []]=xbg xaO from rfl]
 simp only [e1,xaf,xav,xam,xai,xar,true_and]) k
theorem xtG (p:xce) (hp:xba p≤1048576) (k):call Qjh [.agg (xcC p)] k=k [.bool (decide (p=xef))]:=xaa (fun k=>by
 have e1:=xsl p xef hp mz.2.1
 simp only [Qjh,un,cur0]
 rw [show [I 0,PV.list 1 []]=xcC xef from rfl]
 simp only [e1,xaf,xav,xam,xai,xar,true_and]) k
def xoc (root count:Int) (label:ByteArray) (g:xkh):Bool:=if decide (g.At=0)=true then xhw g.Before g.Left else xa2 root count g.Before g.Left&&(decide (g.Left.At=g.At-1)&&decide (xle g.Before.Label label=-1))
def xkq (root count:Int) (label:ByteArray) (g:xkh):Bool:=if decide (g.At=count)=true then xhw g.After g.Right else xa2 root count g.After g.Right&&(decide (g.Right.At=g.At)&&decide (xle g.After.Label label=1))
def xrJ (root count:Int) (label:ByteArray) (g:xkh):Bool:=xcz label&&(inR g.At 0 count&&(!(decide (count=0)&&!decide (root=xjE []))&&(xoc root count label g&&xkq root count label g)))
theorem xrd {g:xkh} (h:xgI g≤1048576):xax g.Before≤1048576∧xax g.After≤1048576∧xba g.Left≤1048576∧xba g.Right≤1048576:=by unfold xgI at h;omega
theorem xu6 (root count:Int) (label:ByteArray) (g:xkh) (hc:count≤12) (hl:label.size≤1048576) (h:xgI g≤1048576) (k):call Qie [.one (I root),.one (I count),.one (.str label),.agg (xlb g)] k=k [.bool (xrJ root count label g)]:=xaa (fun k=>by
 obtain ⟨g1,g2,g3,g4⟩:=xrd h
 have e1:=xsG label hl
 have e2:=xsn g.Before g.Left g1 g3
 have e3:=xsn g.After g.Right g2 g4
 have e4:=xsq root count g.Before g.Left g1 g3
 have e5:=xsq root count g.After g.Right g2 g4
 have e6:∀k,call Qdd [.one (.list 4 [])] k=k [I (xjE [])]:=xvM [] (by decide)
 unfold xrJ
 cases hb:xcz label with
 | false=>simp [Qie,e1,hb]
 | true =>
  cases hr:inR g.At 0 count with
  | false=>simp [Qie,e1,hb,xeo,hr]
  | true =>
   have hr':0≤g.At∧g.At≤count:=by unfold inR at hr;simpa using hr
   have hup:(if decide (g.At=count)=true then k [.bool (xhw g.After g.Right)] else if xa2 root count g.After g.Right=true then if decide (g.Right.At=g.At)=true then k [.bool (decide (xle g.After.Label label=1))] else k [.bool false] else k [.bool false])↔k [.bool (xkq root count label g)]:=by
    unfold xkq
    cases decide (g.At=count)<;>cases xa2 root count g.After g.Right<;>cases decide (g.Right.At=g.At)<;>simp
   have hw3:IntKind.i64.wrap (g.At-1)=g.At-1:=xcn (by omega) (by omega)
   simp only [Qie,un,cur0,e1,hb,xeo,hr,e2,e3,e4,e5,e6,xvS,xa8,xaD,xbM,xbP,bne,xdZ,hw3,xaf,xah,xav,xam,xai,xar,true_and,Bool.not_true,Bool.false_eq_true,if_false,show (0:Nat)≤16777216 by omega,Bool.true_and,propext hup]
   unfold xoc
   generalize xkq root count label g=u
   cases decide (count=0)<;>cases decide (root=xjE [])<;>cases decide (g.At=0)<;>cases xhw g.Before g.Left<;>cases xa2 root count g.Before g.Left<;>cases decide (g.Left.At=g.At-1)<;>cases decide (xle g.Before.Label label=-1)<;>simp) k
def sNb (root count:Int) (e:xaS) (p:xce) (at_:Int):Bool:=if inR at_ 0 (count-1)=true then xa2 root count e p&&decide (p.At=at_) else xhw e p
theorem xtF (root count:Int) (e:xaS) (p:xce) (at_:Int) (hc:0≤count∧count≤12) (h:xax e≤1048576) (hp:xba p≤1048576) (k):call Qji [.one (I root),.one (I count),.agg (xbg e),.agg (xcC p),.one (I at_)] k=k [.bool (sNb root count e p at_)]:=xaa (fun k=>by
 have e1:=xtI root count e p h hp
 have e2:=xtH e h
 have e3:=xtG p hp
 have w:IntKind.i64.wrap (count-1)=count-1:=xcn (by omega) (by omega)
 simp only [Qji,un,cur0,e1,e2,e3,xbP,w,xdn,xa8,xaD,xdZ,xaf,xah,xav,xam,xai,xar,true_and]
 unfold sNb xhw
 cases inR at_ 0 (count-1)<;>cases decide (e=xaO)<;>cases xa2 root count e p<;>simp) k
theorem xuY (root count:Int) (label:ByteArray) (g:xkh) (hc:0≤count∧count≤12) (hl:label.size≤1048576) (h:xgI g≤1048576) (k):call Qjj [.one (I root),.one (I count),.one (.str label),.agg (xlb g)] k=k [.bool (xrJ root count label g)]:=xaa (fun k=>by
 obtain ⟨g1,g2,g3,g4⟩:=xrd h
 have e1:=xsw label hl
 have e4:=xtF root count g.Before g.Left (g.At-1) hc g1 g3
 have e5:=xtF root count g.After g.Right g.At hc g2 g4
 have e6:∀k,call Qgf [.one (.list 4 [])] k=k [I (xjE [])]:=xvk [] (by decide)
 unfold xrJ
 cases hb:xcz label with
 | false=>simp [Qjj,e1,hb]
 | true =>
  cases hr:inR g.At 0 count with
  | false=>simp [Qjj,e1,hb,xdn,hr]
  | true =>
   have hr':0≤g.At∧g.At≤count:=by unfold inR at hr;simpa using hr
   have hw3:IntKind.i64.wrap (g.At-1)=g.At-1:=xcn (by omega) (by omega)
   have n1:inR (g.At-1) 0 (count-1)=!decide (g.At=0):=by
    unfold inR;by_cases h0:g.At=0
    ·simp [h0]
    ·simp [h0];omega
   have n2:inR g.At 0 (count-1)=!decide (g.At=count):=by
    unfold inR;by_cases h0:g.At=count
    ·simp [h0];try (intro _;omega)
    ·simp [h0];omega
   have c1:decide (xle g.Before.Label label<0)=decide (xle g.Before.Label label=-1):=by
    rcases xf1 g.Before.Label.data.toList label.data.toList with h | h | h<;>simp [xle,h]
   have c2:decide (0<xle g.After.Label label)=decide (xle g.After.Label label=1):=by
    rcases xf1 g.After.Label.data.toList label.data.toList with h | h | h<;>simp [xle,h]
   simp only [Qjj,un,cur0,e1,hb,xdn,hr,e4,e5,e6,xvq,xa8,xaD,xbM,xbP,xan,xb3,bne,xdZ,hw3,c1,c2,xaf,xah,xav,xam,xai,xar,true_and,Bool.not_true,Bool.false_eq_true,if_false,Bool.true_and]
   unfold sNb xoc xkq
   rw [n1,n2]
   cases decide (count=0)<;>cases decide (root=xjE [])<;>cases decide (g.At=0)<;>cases decide (g.At=count)<;>cases xhw g.Before g.Left<;>cases xhw g.After g.Right<;>cases xa2 root count g.Before g.Left<;>cases xa2 root count g.After g.Right<;>cases decide (g.Left.At=g.At-1)<;>cases decide (g.Right.At=g.At)<;>cases decide (xle g.Before.Label label=-1)<;>simp) k
def xet (p:xa7) (label:ByteArray) (a:xat):Bool:=if a.Found=true then (if decide (a.Entry.Label=label)=true then xa2 p.Root p.Count a.Entry a.Proof&&decide (a.Gap=xpL) else false) else xrJ p.Root p.Count label a.Gap&&xhw a.Entry a.Proof
theorem xbm {a:xat} (h:xaK a≤1048576):xaq a.Chain≤1048576∧xax a.Entry≤1048576∧xba a.Proof≤1048576∧xgI a.Gap≤1048576:=by unfold xaK at h;omega
def xki (zone:Int) (label:ByteArray) (a:xat) (now:Int):Int:=match xe2 a.Chain with
 | none=>3
 | some p=>if decide (p.Zone=zone)=false then 2 else if inR now p.Time p.Until=false then 4 else if p.Frozen=true then 5 else if xet p label a=false then 6 else 1
theorem xu2 (p:xa7) (now:Int) (k):call Qiz [.agg (xbo p),.one (I now)] k=k [.bool (inR now p.Time p.Until)]:=xaa (fun k=>by
 simp only [Qiz,un,cur0,xdn,xaf,xav,xam,xai,xar,true_and]) k
theorem xuX (p:xa7) (label:ByteArray) (a:xat) (hc:0≤p.Count∧p.Count≤12) (hl:label.size≤1048576) (h:xaK a≤1048576) (k):call Qjk [.agg (xbo p),.one (.str label),.agg (xaU a)] k=k [.bool (xet p label a)]:=xaa (fun k=>by
 obtain ⟨h1,h2,h3,h4⟩:=xbm h
 have e1:=xtI p.Root p.Count a.Entry a.Proof h2 h3
 have e2:=xuZ a.Gap xpL h4 mz.2.2
 have e3:=xuY p.Root p.Count label a.Gap hc hl h4
 have e4:=xtH a.Entry h2
 have e5:=xtG a.Proof h3
 simp only [Qjk,un,cur0]
 rw [show [I 0,PV.str ⟨#[]⟩,I 0,I 0,PV.list 1 [],PV.str ⟨#[]⟩,I 0,I 0,PV.list 1 [],I 0,PV.list 1 [],I 0,PV.list 1 []]=xlb xpL from rfl]
 simp only [e1,e2,e3,e4,e5,xil,xaf,xah,xav,xam,xai,xar,true_and]
 unfold xet xhw
 generalize decide (a.Entry.Label=label)=b1
 generalize xa2 p.Root p.Count a.Entry a.Proof=b2
 generalize xrJ p.Root p.Count label a.Gap=b3
 generalize decide (a.Entry=xaO)=b4
 cases a.Found<;>cases b1<;>cases b2<;>cases b3<;>cases b4<;>simp) k
theorem xtE (zone:Int) (label:ByteArray) (a:xat) (now:Int) (hl:label.size≤1048576) (h:xaK a≤1048576) (k):call Qjl [.one (I zone),.one (.str label),.agg (xaU a),.one (I now)] k=k [I (xki zone label a now)]:=xaa (fun k=>by
 obtain ⟨h1,h2,h3,h4⟩:=xbm h
 have e1:=xu3 a.Chain h1
 unfold xki
 cases hs:xe2 a.Chain with
 | none =>
  rw [hs] at e1
  simp only [Qjl,un,cur0,e1,xe3,xek,xbo,List.cons_append,List.nil_append,xa8,xaf,xbl,xah,xav,xam,xai,xao,true_and,Bool.not_false,if_true]
 | some p =>
  rw [hs] at e1
  have e2:=xu2 p now
  have e3:=xuX p label a (xhP hs).1 hl h
  simp only [Qjl,un,cur0,e1,e2,e3,xe3,xbo,List.cons_append,List.nil_append,xa8,xbM,bne,xdZ,xaf,xbl,xah,xav,xam,xai,xao,true_and,Bool.not_true,Bool.false_eq_true,if_false]
  cases decide (p.Zone=zone)<;>cases inR now p.Time p.Until<;>cases p.Frozen<;>cases xet p label a<;>simp) k
theorem xva (p:xa7) (now:Int) (k):call Qhw [.agg (xbo p),.one (I now)] k=k [.bool (inR now p.Time p.Until)]:=xaa (fun k=>by
 simp only [Qhw,un,cur0,xeo,xaf,xav,xam,xai,xar,true_and]) k
theorem xu5 (p:xa7) (label:ByteArray) (a:xat) (hc:0≤p.Count∧p.Count≤12) (hl:label.size≤1048576) (h:xaK a≤1048576) (k):call Qif [.agg (xbo p),.one (.str label),.agg (xaU a)] k=k [.bool (xet p label a)]:=xaa (fun k=>by
 obtain ⟨h1,h2,h3,h4⟩:=xbm h
 have e1:=xsq p.Root p.Count a.Entry a.Proof h2 h3
 have e2:=xu7 a.Gap xpL h4 mz.2.2
 have e3:=xu6 p.Root p.Count label a.Gap hc.2 hl h4
 have e4:=xsn a.Entry a.Proof h2 h3
 have e5:=e4
 simp only [Qif,un,cur0]
 rw [show [I 0,PV.str ⟨#[]⟩,I 0,I 0,PV.list 1 [],PV.str ⟨#[]⟩,I 0,I 0,PV.list 1 [],I 0,PV.list 1 [],I 0,PV.list 1 []]=xlb xpL from rfl]
 simp only [e1,e2,e3,e4,e5,xil,xaf,xah,xav,xam,xai,xar,true_and]
 unfold xet
 generalize decide (a.Entry.Label=label)=b1
 generalize xa2 p.Root p.Count a.Entry a.Proof=b2
 generalize xrJ p.Root p.Count label a.Gap=b3
 generalize decide (a.Entry=xaO)=b4
 cases a.Found<;>cases b1<;>cases b2<;>cases b3<;>cases b4<;>simp) k
theorem xtJ (zone:Int) (label:ByteArray) (a:xat) (now:Int) (hl:label.size≤1048576) (h:xaK a≤1048576) (k):call Qig [.one (I zone),.one (.str label),.agg (xaU a),.one (I now)] k=k [I (xki zone label a now)]:=xaa (fun k=>by
 obtain ⟨h1,h2,h3,h4⟩:=xbm h
 have e1:=xtZ a.Chain h1
 unfold xki
 cases hs:xe2 a.Chain with
 | none =>
  rw [hs] at e1
  simp only [Qig,un,cur0,e1,xe3,xek,xbo,List.cons_append,List.nil_append,xa8,xaf,xbl,xah,xav,xam,xai,xao,true_and,Bool.not_false,if_true]
 | some p =>
  rw [hs] at e1
  have e2:=xva p now
  have e3:=xu5 p label a (xhP hs).1 hl h
  simp only [Qig,un,cur0,e1,e2,e3,xe3,xbo,List.cons_append,List.nil_append,xa8,xbM,bne,xdZ,xaf,xbl,xah,xav,xam,xai,xao,true_and,Bool.not_true,Bool.false_eq_true,if_false]
  cases decide (p.Zone=zone)<;>cases inR now p.Time p.Until<;>cases p.Frozen<;>cases xet p label a<;>simp) k
def xgT:xag:=⟨xek,[]⟩
theorem mzS:xau xgT≤1048576:=by decide
def xfn (f:xcT):Bool:=if decide (f.A.Head=f.B.Head)=true then false else if decide (f.Before=xgT)=true then xcG f.A&&(xcG f.B&&decide (f.A.Head.Zone=f.B.Head.Zone)) else xnp f.Before.Head f.A&&xnp f.Before.Head f.B
def fz (c:List xag):Int:=match c[0]? with | some s=>s.Head.Zone | none=>0
def xl5 (z:Int) (c:List xag):Bool:=match c[0]? with | some s=>decide (s.Head.Zone=z) | none=>false
theorem xcc {c:List xag} (h:xaM c=true):∃s,c[0]? = some s:=by
 obtain ⟨_,_,h0⟩:=xeJ h
 exact ⟨c[0],List.getElem?_eq_getElem h0⟩
abbrev chains (l:List (List xag)):PV:=.list 1 (l.map (fun l:List xag=>[PV.list 17 (l.map xal)]))
theorem xsr (a:xaJ) (z:Int) (h:a.Chains.length≤1048576) (k):call Qhq [.agg (xcb a),.one (I z)] k=k [I (idx (xl5 z) a.Chains)]:=xaa (fun k=>by
 simp only [Qhq,un,cur0]
 refine xfs (Q:=fun i=>k [I i]) a.Chains (fun i=>[I z,I 0,I i,chains a.Chains,.list 51 (a.Forks.map xbw)]) (xl5 z) rfl (fun i x hx hi K=>?_) fun K=>?_
 ·unfold xl5
  cases h0:x[0]? with
  | none =>
   have h1:x=[]:=by cases x with | nil=>rfl | cons s t=>cases h0
   subst h1
   simp [-getElem?_pos,Qhq_r0,hx,hi,xap (show i<1000000000000000000 by omega)]
  | some s =>
   have h1:=xaL h0
   simp [-getElem?_pos,Qhq_r0,hx,hi,h0,xap (show i<1000000000000000000 by omega),show (0:Int)<(x.length:Int) by omega,h1]
 ·simp [Qhq_r0]) k
theorem xjV (c:List xag) (z:Int) (k):call Qjm [.one (.list 17 (c.map xal)),.ro (.cells [I z])] k=k [.bool (xl5 z c)]:=xaa (fun k=>by
 unfold xl5
 cases h0:c[0]? with
 | none =>
  have h1:c=[]:=by cases c with | nil=>rfl | cons s t=>cases h0
  subst h1
  simp [-getElem?_pos,Qjm]
 | some s =>
  have h1:=xaL h0
  simp [-getElem?_pos,Qjm,h0,xdZ,show (0:Int)<(c.length:Int) by omega,h1]) k
theorem xft (a:xaJ) (z:Int) (h:a.Chains.length≤1048576) (k):call Qjo [.agg (xcb a),.one (I z)] k=k [I (idx (xl5 z) a.Chains)]:=xaa (fun k=>by
 have e:∀k,call Qjn [.one (chains a.Chains),.fn 387 [.cells [I z]]] k=k [I (idx (xl5 z) a.Chains)]:=xaa (fun k=>by
  simp [Qjn]
  refine xfs (Q:=fun i=>k [I i]) a.Chains (fun i=>[chains a.Chains,I z,I 0,I a.Chains.length,I i]) (xl5 z) rfl (fun i x hx hi K=>?_) fun K=>?_
  ·simp [-getElem?_pos,Qjn_r0,hx,hi,xjV x z,xap (show i<1000000000000000000 by omega)]
  ·simp [Qjn_r0])
 simp only [Qjo,un,cur0,e,xaf,xav,xam,xai,xao,true_and]) k
def isS (z:Int) (n:ByteArray) (s:xbz):Bool:=decide (s.Zone=z)&&decide (s.Label=n)
theorem xtD (a:xbE) (z:Int) (n:ByteArray) (h:a.Lst.length≤1048576) (k):call Qkg [.agg (xbC a),.one (I z),.one (.str n)] k=k [I (idx (isS z n) a.Lst)]:=xaa (fun k=>by
 simp only [Qkg,un,cur0]
 refine xfs (Q:=fun i=>k [I i]) a.Lst (fun i=>[I z,.str n,I 0,I i,.list 23 (a.Lst.map xa4)]) (isS z n) rfl (fun i x hx hi K=>?_) fun K=>?_
 ·unfold isS
  simp [-getElem?_pos,Qkg_r0,hx,hi,xap (show i<1000000000000000000 by omega)]
  by_cases h1:x.Zone=z<;>by_cases h2:x.Label=n<;>simp [h1,h2]
 ·simp [Qkg_r0]) k
theorem xiI (s:xbz) (z:Int) (n:ByteArray) (k):call Qkp [.agg (xa4 s),.ro (.cells [I z]),.ro (.cells [.str n])] k=k [.bool (isS z n s)]:=xaa (fun k=>by
 unfold isS
 simp only [Qkp,un,cur0,xaD,xdZ,xil,xah,xav,xam,xai,xar,true_and]
 exact xb5 fun _=>Iff.rfl) k
theorem xgK (a:xbE) (z:Int) (n:ByteArray) (h:a.Lst.length≤1048576) (k):call Qkr [.agg (xbC a),.one (I z),.one (.str n)] k=k [I (idx (isS z n) a.Lst)]:=xaa (fun k=>by
 have e:∀k,call Qkq [.one (.list 23 (a.Lst.map xa4)),.fn 285 [.cells [I z],.cells [.str n]]] k=k [I (idx (isS z n) a.Lst)]:=xaa (fun k=>by
  simp [Qkq]
  refine xfs (Q:=fun i=>k [I i]) a.Lst (fun i=>[.list 23 (a.Lst.map xa4),I z,.str n,I 0,I a.Lst.length,I i]) (isS z n) rfl (fun i x hx hi K=>?_) fun K=>?_
  ·simp [-getElem?_pos,Qkq_r0,hx,hi,xiI x z n,xap (show i<1000000000000000000 by omega)]
  ·simp [Qkq_r0])
 simp only [Qkr,un,cur0,e,xaf,xav,xam,xai,xao,true_and]) k
theorem xqQ (l m:List xag) (h:xaq l≤1048576) (h':xaq m≤1048576) (k):call Qhs [.one (.list 17 (l.map xal)),.one (.list 17 (m.map xal))] k=k [.bool (xiu l m)]:=xaa (fun k=>by
 have hl0:=xmO h
 have hm0:=xmO h'
 unfold xiu
 by_cases hl:l.length≤m.length
 ·simp only [hl,decide_true,Bool.true_and]
  simp [Qhs,show ¬(m.length:Int)<l.length by omega]
  refine (xg9 k false l (fun i=>[.list 17 (l.map xal),.list 17 (m.map xal),.bool false,I i]) (xrM m) rfl (fun i x hx hi K=>?_) fun K=>?_).trans (by simp)
  ·obtain ⟨y,hy⟩:∃y,m[i]? = some y:=⟨m[i],List.getElem?_eq_getElem (by omega)⟩
   have e:=xqR x.Head y.Head (xg8 h (xbc hx)) (xg8 h' (xbc hy))
   simp [-getElem?_pos,Qhs_r0,hx,hy,hi,e,xrM,xap (show i<1000000000000000000 by omega)]
   all_goals (by_cases hxy:x.Head=y.Head<;>simp [hxy])
  ·simp [Qhs_r0]
 ·simp [Qhs,hl,show (m.length:Int)<l.length by omega]) k
theorem xqO (l m:List xag) (h:xaq l≤1048576) (h':xaq m≤1048576) (k):call Qjq [.one (.list 17 (l.map xal)),.one (.list 17 (m.map xal))] k=k [.bool (xiu l m)]:=xaa (fun k=>by
 have hl0:=xmO h
 have hm0:=xmO h'
 unfold xiu
 by_cases hl:l.length≤m.length
 ·simp only [hl,decide_true,Bool.true_and]
  simp [Qjq,show ¬(m.length:Int)<l.length by omega]
  refine (xg9 k false l (fun i=>[.list 17 (m.map xal),.bool false,.list 17 (l.map xal),I l.length,I i]) (xrM m) rfl (fun i x hx hi K=>?_) fun K=>?_).trans (by simp)
  ·obtain ⟨y,hy⟩:∃y,m[i]? = some y:=⟨m[i],List.getElem?_eq_getElem (by omega)⟩
   have e:=xqP x.Head y.Head (xg8 h (xbc hx)) (xg8 h' (xbc hy))
   simp [-getElem?_pos,Qjq_r0,hx,hy,hi,e,xrM,xap (show i<1000000000000000000 by omega)]
   all_goals (by_cases hxy:x.Head=y.Head<;>simp [hxy])
  ·simp [Qjq_r0]
 ·simp [Qjq,hl,show (m.length:Int)<l.length by omega]) k
def xhi:xcT:=⟨xgT,xgT,xgT⟩
def fdiff:Nat→List (xag×xag)→Option (Nat×xag×xag)
 | _,[]=>none
 | i,(x,y)::l=>if x.Head=y.Head then fdiff (i+1) l else some (i,x,y)
theorem xfx (P:Nat→xag×xag→Prop):∀(i:Nat) (l:List (xag×xag)),xe4 (fun _ q=>!decide (q.1.Head=q.2.Head)) P False i l=match fdiff i l with | some (d,x,y)=>P d (x,y) | none=>False
 | _,[]=>rfl
 | i,(x,y)::l=>by
  rw [xe4,fdiff,xfx P (i+1) l]
  by_cases h:x.Head=y.Head<;>simp [h]
theorem xjn:∀(i:Nat) (l:List (xag×xag)),fdiff i l=none→∀q∈l,q.1.Head=q.2.Head
 | _,[],_,q,hq=>by cases hq
 | i,(x,y)::l,h,q,hq=>by
  rw [fdiff] at h
  split at h
  ·rename_i hxy
   rcases List.mem_cons.1 hq with rfl | hq
   ·exact hxy
   ·exact xjn (i+1) l h q hq
  ·cases h
theorem xlq {α:Type} (p:Nat→α→Bool):∀(i:Nat) (l:List α),(∀j x,l[j]? = some x→p (i+j) x=false)→xff p i l=false
 | _,[],_=>rfl
 | i,x::l,h=>by
  have h0:=h 0 x rfl
  rw [Nat.add_zero] at h0
  rw [xff,h0,Bool.false_or]
  exact xlq p (i+1) l fun j y hy=>by
   have:=h (j+1) y (by simpa using hy)
   rwa [show i+(j+1)=i+1+j by omega] at this
theorem xnY {l m:List xag} {i:Nat} {x y:xag} (hx:l[i]? = some x) (hy:m[i]? = some y):(x,y)∈l.zip m:=by
 apply List.mem_of_getElem? (i:=i)
 rw [List.getElem?_zip_eq_some]
 exact ⟨hx,hy⟩
theorem xhE {l m:List xag} (h:∀q∈l.zip m,q.1.Head=q.2.Head) (hl:l.length≤m.length):xiu l m=true:=by
 unfold xiu
 have:xff (xrM m) 0 l=false:=xlq _ 0 l fun j x hx=>by
  have hj:=xaL hx
  have hy:m[j]? = some m[j]:=List.getElem?_eq_getElem (by omega)
  have:=h _ (xnY hx hy)
  rw [Nat.zero_add]
  unfold xrM
  rw [hy]
  simp only [Bool.not_eq_false',decide_eq_true_eq]
  exact this
 rw [this]
 simp [hl]
theorem xjm {l m:List xag} (h1:xiu l m=false) (h2:xiu m l=false):∃d x y,fdiff 0 (l.zip m)=some (d,x,y):=by
 cases h:fdiff 0 (l.zip m) with
 | some q=>exact ⟨q.1,q.2.1,q.2.2,rfl⟩
 | none =>
  have h3:=xjn 0 _ h
  rcases Nat.le_total l.length m.length with h4 | h4
  ·rw [xhE h3 h4] at h1;cases h1
  ·rw [xhE (l:=m) (m:=l) (fun q hq=>by
    obtain ⟨i,hi⟩:=List.mem_iff_getElem?.1 hq
    rw [List.getElem?_zip_eq_some] at hi
    exact (h3 _ (xnY hi.2 hi.1)).symm) h4] at h2
   cases h2
def xqE (l:List xag) (d:Nat):xag:=if d=0 then xgT else match l[d-1]? with | some z=>z | none=>xgT
def xd4 (l m:List xag):Option xcT:=if xaM l=true then (if xaM m=true then
 (match l[0]?,m[0]? with
  | some x,some y=>if decide (x.Head.Zone=y.Head.Zone)=true then (if xiu l m=true then none else if xiu m l=true then none else
   match fdiff 0 (l.zip m) with | some (d,x,y)=>some ⟨xqE l d,x,y⟩ | none=>none) else none
  | _,_=>none) else none) else none
def xcZ:Option xcT→List PV
 | some f=>xbw f++[.bool true]
 | none=>xbw xhi++[.bool false]
theorem xuW (l m:List xag) (h:xaq l≤1048576) (h':xaq m≤1048576) (k):call Qjs [.one (.list 17 (l.map xal)),.one (.list 17 (m.map xal))] k=k (xcZ (xd4 l m)):=xaa (fun k=>by
 have e1:=xpA l h
 have e2:=xpA m h'
 have e3:=xqO l m h h'
 have e4:=xqO m l h' h
 have hl:=(xbZ h).2
 have hm:=(xbZ h').2
 have hll:=(xbZ h).1
 have hlm:=(xbZ h').1
 unfold xd4
 cases c1:xaM l with
 | false=>simp [Qjs,e1,c1,xcZ,xhi,xgT,xek,ints]
 | true =>
 cases c2:xaM m with
 | false=>simp [Qjs,e1,e2,c1,c2,xcZ,xhi,xgT,xek,ints]
 | true =>
 obtain ⟨x0,hx0⟩:=xcc c1
 obtain ⟨y0,hy0⟩:=xcc c2
 rw [hx0,hy0]
 by_cases c3:x0.Head.Zone=y0.Head.Zone
 rotate_left
 ·simp [-getElem?_pos,Qjs,e1,e2,c1,c2,hx0,hy0,c3,xcZ,xhi,xgT,xek,ints]
 cases c4:xiu l m with
 | true=>simp [-getElem?_pos,Qjs,e1,e2,e3,c1,c2,hx0,hy0,c3,c4,xcZ,xhi,xgT,xek,ints]
 | false =>
 cases c5:xiu m l with
 | true=>simp [-getElem?_pos,Qjs,e1,e2,e3,e4,c1,c2,hx0,hy0,c3,c4,c5,xcZ,xhi,xgT,xek,ints]
 | false =>
 obtain ⟨d,x,y,hd⟩:=xjm c4 c5
 simp only [Qjs,e1,e2,e3,e4,c1,c2,c4,c5,xk8,Int.toNat_zero,hx0,hy0,xox,xaf,xbl,xa8,xbM,bne,xdZ,c3,decide_true,Bool.not_true,Bool.false_eq_true,if_false,if_true,xah,Int.le_refl,show (0:Int)≤0 by omega,true_and]
 have key:=xfx (fun d q=>k (xcZ (some ⟨xqE l d,q.1,q.2⟩))) 0 (l.zip m)
 rw [hd] at key
 simp only at key
 rw [hd]
 refine Iff.trans ?_ (Iff.of_eq key)
 refine xhN (l.zip m) (fun i=>[.list 17 (l.map xal),.list 17 (m.map xal),.bool false,I i,(I 0),(I 0),(I 0),(I 0),(I 0),(I 0),(I 0),(I 0),(I 0),(I 0),(I 0),(I 0),(.bool false),(I 0),(I 0),(I 0),(I 0),(I 0),(I 0),(I 0),(I 0),(I 0),(I 0),(I 0),(I 0),(.bool false),(I 0),(I 0),(I 0),(I 0),(I 0),(I 0),(I 0),(I 0),(I 0),(I 0),(I 0),(I 0),(.bool false),(.list 2 []),(.list 1 []),(.list 1 []),(.list 1 []),(.list 2 []),(.list 1 []),(.list 1 []),(.list 1 []),(.list 2 []),(.list 1 []),(.list 1 []),(.list 1 [])]) (fun _ q=>!decide (q.1.Head=q.2.Head)) (fun d q=>k (xcZ (some ⟨xqE l d,q.1,q.2⟩))) rfl (fun i q hq K=>?_) fun K=>?_
 ·obtain ⟨x,y⟩:=q
  obtain ⟨hx,hy⟩:=List.getElem?_zip_eq_some.1 hq
  have q1:=xqP x.Head y.Head (xa1 (hl x (xbc hx))).1 (xa1 (hm y (xbc hy))).1
  have q2:=xmp x (hl x (xbc hx))
  have q3:=xmp y (hm y (xbc hy))
  have hil:=xaL hx
  have him:=xaL hy
  by_cases hxy:x.Head=y.Head
  ·have hxy':decide (x.Head=y.Head)=true:=by simp [hxy]
   rw [hxy'] at q1
   simp [-getElem?_pos,Qjs_r0,hx,hy,q1,hxy',hil,him,xap (show i<1000000000000000000 by omega)]
  ·have hxy':decide (x.Head=y.Head)=false:=by simp [hxy]
   rw [hxy'] at q1
   unfold xqE
   by_cases h0:i=0
   ·subst h0
    simp [-getElem?_pos,Qjs_r0,hx,hy,q1,q2,q3,hxy',hil,him,xcZ,xgT,xek,ints]
   ·obtain ⟨z,hz⟩:∃z,l[i-1]? = some z:=⟨l[i-1],List.getElem?_eq_getElem (by omega)⟩
    have q4:=xmp z (hl z (xbc hz))
    simp [-getElem?_pos,Qjs_r0,hx,hy,hz,q1,q2,q3,q4,hxy',hil,him,xcZ,h0,show (0:Int)<(i:Int) by omega,show 0<i by omega,xd0 (show 0<i by omega) (show i<1000000000000000000 by omega)]
 ·have:(l.zip m)[(l.zip m).length]? = none:=by simp
  have hq:l[(l.zip m).length]? = none∨m[(l.zip m).length]? = none:=by
   simp only [List.length_zip,List.getElem?_eq_none_iff];omega
  generalize (l.zip m).length=n at hq
  cases hx:l[n]? with
  | none=>simp [-getElem?_pos,Qjs_r0,hx]
  | some x =>
   have hy:m[n]? = none:=by rcases hq with h | h;(rw [hx] at h;cases h);exact h
   simp [-getElem?_pos,Qjs_r0,hx,hy]) k
theorem xvb (l m:List xag) (h:xaq l≤1048576) (h':xaq m≤1048576) (k):call Qhu [.one (.list 17 (l.map xal)),.one (.list 17 (m.map xal))] k=k (xcZ (xd4 l m)):=xaa (fun k=>by
 have e1:=xqV l h
 have e2:=xqV m h'
 have e3:=xqQ l m h h'
 have e4:=xqQ m l h' h
 have hl:=(xbZ h).2
 have hm:=(xbZ h').2
 have hll:=(xbZ h).1
 have hlm:=(xbZ h').1
 unfold xd4
 cases c1:xaM l with
 | false=>simp [Qhu,e1,c1,xcZ,xhi,xgT,xek,ints]
 | true =>
 cases c2:xaM m with
 | false=>simp [Qhu,e1,e2,c1,c2,xcZ,xhi,xgT,xek,ints]
 | true =>
 obtain ⟨x0,hx0⟩:=xcc c1
 obtain ⟨y0,hy0⟩:=xcc c2
 rw [hx0,hy0]
 by_cases c3:x0.Head.Zone=y0.Head.Zone
 rotate_left
 ·simp [-getElem?_pos,Qhu,e1,e2,c1,c2,hx0,hy0,c3,xcZ,xhi,xgT,xek,ints]
 cases c4:xiu l m with
 | true=>simp [-getElem?_pos,Qhu,e1,e2,e3,c1,c2,hx0,hy0,c3,c4,xcZ,xhi,xgT,xek,ints]
 | false =>
 cases c5:xiu m l with
 | true=>simp [-getElem?_pos,Qhu,e1,e2,e3,e4,c1,c2,hx0,hy0,c3,c4,c5,xcZ,xhi,xgT,xek,ints]
 | false =>
 obtain ⟨d,x,y,hd⟩:=xjm c4 c5
 simp only [Qhu,e1,e2,e3,e4,c1,c2,c4,c5,xk8,Int.toNat_zero,hx0,hy0,xox,xaf,xbl,xa8,xbM,bne,xdZ,c3,decide_true,Bool.not_true,Bool.false_eq_true,if_false,if_true,xah,Int.le_refl,show (0:Int)≤0 by omega,true_and]
 have key:=xfx (fun d q=>k (xcZ (some ⟨xqE l d,q.1,q.2⟩))) 0 (l.zip m)
 rw [hd] at key
 simp only at key
 rw [hd]
 refine Iff.trans ?_ (Iff.of_eq key)
 refine xhN (l.zip m) (fun i=>[.list 17 (l.map xal),.list 17 (m.map xal),.bool false,I i,(I 0),(I 0),(I 0),(I 0),(I 0),(I 0),(I 0),(I 0),(I 0),(I 0),(I 0),(I 0),(.bool false),(I 0),(I 0),(I 0),(I 0),(I 0),(I 0),(I 0),(I 0),(I 0),(I 0),(I 0),(I 0),(.bool false),(I 0),(I 0),(I 0),(I 0),(I 0),(I 0),(I 0),(I 0),(I 0),(I 0),(I 0),(I 0),(.bool false),(.list 2 []),(.list 1 []),(.list 1 []),(.list 1 []),(.list 2 []),(.list 1 []),(.list 1 []),(.list 1 []),(.list 2 []),(.list 1 []),(.list 1 []),(.list 1 [])]) (fun _ q=>!decide (q.1.Head=q.2.Head)) (fun d q=>k (xcZ (some ⟨xqE l d,q.1,q.2⟩))) rfl (fun i q hq K=>?_) fun K=>?_
 ·obtain ⟨x,y⟩:=q
  obtain ⟨hx,hy⟩:=List.getElem?_zip_eq_some.1 hq
  have q1:=xqR x.Head y.Head (xa1 (hl x (xbc hx))).1 (xa1 (hm y (xbc hy))).1
  have q2:=xlz x (hl x (xbc hx))
  have q3:=xlz y (hm y (xbc hy))
  have hil:=xaL hx
  have him:=xaL hy
  by_cases hxy:x.Head=y.Head
  ·have hxy':decide (x.Head=y.Head)=true:=by simp [hxy]
   rw [hxy'] at q1
   simp [-getElem?_pos,Qhu_r0,hx,hy,q1,hxy',hil,him,xap (show i<1000000000000000000 by omega)]
  ·have hxy':decide (x.Head=y.Head)=false:=by simp [hxy]
   rw [hxy'] at q1
   unfold xqE
   by_cases h0:i=0
   ·subst h0
    simp [-getElem?_pos,Qhu_r0,hx,hy,q1,q2,q3,hxy',hil,him,xcZ,xgT,xek,ints]
   ·obtain ⟨z,hz⟩:∃z,l[i-1]? = some z:=⟨l[i-1],List.getElem?_eq_getElem (by omega)⟩
    have q4:=xlz z (hl z (xbc hz))
    simp [-getElem?_pos,Qhu_r0,hx,hy,hz,q1,q2,q3,q4,hxy',hil,him,xcZ,h0,show (0:Int)<(i:Int) by omega,show 0<i by omega,xd0 (show 0<i by omega) (show i<1000000000000000000 by omega)]
 ·have hq:l[(l.zip m).length]? = none∨m[(l.zip m).length]? = none:=by
   simp only [List.length_zip,List.getElem?_eq_none_iff];omega
  generalize (l.zip m).length=n at hq
  cases hx:l[n]? with
  | none =>
   have hn:¬(n:Int)<(l.length:Int):=by have:=List.getElem?_eq_none_iff.1 hx;omega
   simp [-getElem?_pos,Qhu_r0,hx,show ¬n<l.length by omega]
  | some x =>
   have hy:m[n]? = none:=by rcases hq with h | h;(rw [hx] at h;cases h);exact h
   have h1:=xaL hx
   have hn:¬(n:Int)<(m.length:Int):=by have:=List.getElem?_eq_none_iff.1 hy;omega
   have c:=xlz x (hl x (xbc hx))
   simp [-getElem?_pos,Qhu_r0,hx,hy,h1,show ¬n<m.length by omega,c]) k
theorem xob {p:xa7} {s:xag} (h:xnp p s=true):s.Head.Zone=p.Zone:=by
 unfold xnp xod at h
 simp only [decide_eq_true_eq] at h
 by_cases h1:xcu p=true
 rotate_left
 ·rw [if_neg h1] at h;exact absurd h (by decide)
 rw [if_pos h1] at h
 by_cases h2:xcu s.Head=true
 rotate_left
 ·rw [if_neg h2] at h;exact absurd h (by decide)
 rw [if_pos h2] at h
 by_cases h3:xpY p s.Head=true
 ·unfold xpY at h3
  simp only [Bool.and_eq_true,decide_eq_true_eq] at h3
  exact h3.1
 ·rw [if_neg h3] at h;exact absurd h (by decide)
theorem xmV {α:Type} {p:Nat→α→Bool}:∀{l:List α} {n:Nat},xj1 p n l<0→∀i x,l[i]? = some x→p (n+i) x=false
 | [],n,h,i,x,hx=>by cases hx
 | y::l,n,h,i,x,hx=>by
  rw [xj1] at h
  by_cases hp:p n y=true
  ·rw [if_pos hp] at h;omega
  ·rw [if_neg hp] at h
   cases i with
   | zero=>cases hx;simpa using hp
   | succ i=>rw [show n+(i+1)=n+1+i by omega];exact xmV h i x hx
theorem xnM {l:List xag} (h:xaM l=true):∀(i:Nat) (x:xag),l[i]? = some x→x.Head.Zone=fz l:=by
 unfold xaM sFW at h
 simp only [Bool.and_eq_true,decide_eq_true_eq] at h
 have hw:=xmV h.2
 intro i
 induction i with
 | zero=>intro x hx;simp [fz,hx]
 | succ i ih =>
  intro x hx
  have h1:=hw (i+1) x hx
  have hl:=xaL hx
  obtain ⟨y,hy⟩:∃y,l[i]? = some y:=⟨l[i],List.getElem?_eq_getElem (by omega)⟩
  simp only [xe5,Nat.zero_add,show ¬(i+1=0) by omega,if_false,Nat.add_sub_cancel,hy,Bool.not_eq_false'] at h1
  rw [xob h1]
  exact ih y hy
theorem xoL {l:List xag} {p:xa7} (h:xe2 l=some p):xaM l=true∧p.Zone=fz l:=by
 unfold xe2 at h
 by_cases hc:xaM l=true
 ·rw [if_pos hc] at h
  obtain ⟨x,hx,_⟩:=xeJ hc
  rw [hx] at h
  cases h
  exact ⟨hc,xnM hc _ x hx⟩
 ·rw [if_neg hc] at h;cases h
def FB (f:xcT):Prop:=xau f.Before≤1048576∧xau f.A≤1048576∧xau f.B≤1048576
def KB (a:xaJ):Prop:=a.Chains.length≤1048576∧(∀c∈a.Chains,xaq c≤1048576)∧a.Forks.length≤1048576∧∀f∈a.Forks,FB f
def SB (s:xbz):Prop:=s.Label.size≤1048576∧xaK s.Answer≤1048576
def CB (c:xbE):Prop:=c.Lst.length≤1048576∧∀s∈c.Lst,SB s
def kI (k:xaJ) (c:List xag):Int:=idx (xl5 (fz c)) k.Chains
def kC (k:xaJ) (c:List xag):List xag:=k.Chains.getD (kI k c).toNat []
def xc4 (k:xaJ) (c:List xag):Int :=
 if xaM c=true then (if decide (kI k c<0)=true then 1 else
  if (xiu (kC k c) c&&xiu c (kC k c))=true then 2 else if xiu (kC k c) c=true then 3 else if xiu c (kC k c)=true then 4 else 5) else 6
def xcY (k:xaJ) (c:List xag):xaJ×Int :=
 if xc4 k c=1 then (if (8:Int)≤k.Chains.length then (k,6) else (⟨k.Chains++[c],k.Forks⟩,1))
 else if xc4 k c=3 then (⟨k.Chains.set (kI k c).toNat c,k.Forks⟩,3)
 else if xc4 k c=5 then (match xd4 (kC k c) c with | some f=>if (k.Forks.length:Int)<8 then (⟨k.Chains,k.Forks++[f]⟩,5) else (k,5) | none=>(k,5))
 else (k,xc4 k c)
def sFZ (f:xcT):Int:=if xfn f=true then f.A.Head.Zone else -1
def xdF (k:xaJ) (z:Int):Bool:=decide (0≤z)&&k.Forks.any (fun f=>decide (sFZ f=z))
def xmA (k:xaJ) (a:xat) (z:Int):xaJ×Int:=if (xaM a.Chain&&decide (fz a.Chain=z))=true then xcY k a.Chain else (k,6)
def xmC (k:xaJ) (a:xat) (z:Int) (s:ByteArray) (now:Int):Int :=
 if (decide (xki z s a now=1)&&!(inR (xmA k a z).2 1 3&&!xdF (xmA k a z).1 z))=true then 3 else xki z s a now
theorem xk5 {l m:List xag} {d:Nat} {x y:xag}:∀{i:Nat} {z:List (xag×xag)},fdiff i z=some (d,x,y)→(x,y)∈z
 | _,[],h=>by cases h
 | i,(a,b)::z,h=>by
  rw [fdiff] at h
  split at h
  ·exact List.mem_cons_of_mem _ (xk5 (l:=l) (m:=m) h)
  ·cases h;exact List.mem_cons_self
theorem xrV {l m:List xag} {f:xcT} (hl:xaq l≤1048576) (hm:xaq m≤1048576) (h:xd4 l m=some f):FB f:=by
 unfold xd4 at h
 split at h
 rotate_left
 ·cases h
 split at h
 rotate_left
 ·cases h
 split at h
 rotate_left
 ·cases h
 split at h
 rotate_left
 ·cases h
 split at h
 ·cases h
 split at h
 ·cases h
 split at h
 rotate_left
 ·cases h
 rename_i d x y hd
 cases h
 have hz:=xk5 (l:=l) (m:=m) hd
 have hx:=(List.of_mem_zip hz).1
 have hy:=(List.of_mem_zip hz).2
 refine ⟨?_,(xbZ hl).2 _ hx,(xbZ hm).2 _ hy⟩
 show xau (xqE l d)≤1048576
 unfold xqE
 split
 ·exact mzS
 ·split
  ·rename_i z hz;exact (xbZ hl).2 _ (List.mem_of_getElem? hz)
  ·exact mzS
theorem xs5 {k:xaJ} {c:List xag}:1≤xc4 k c∧xc4 k c≤6:=by
 unfold xc4
 repeat' split
 all_goals omega
theorem xkg {k:xaJ} {c:List xag} (hk:KB k) (hc:xaq c≤1048576):KB (xcY k c).1:=by
 obtain ⟨h1,h2,h3,h4⟩:=hk
 unfold xcY
 split
 ·split
  ·exact ⟨h1,h2,h3,h4⟩
  ·refine ⟨by simp;omega,fun x hx=>?_,h3,h4⟩
   rcases List.mem_append.1 hx with hx | hx
   ·exact h2 x hx
   ·rw [List.mem_singleton.1 hx];exact hc
 split
 ·refine ⟨by simpa using h1,fun x hx=>?_,h3,h4⟩
  rcases List.mem_or_eq_of_mem_set hx with hx | hx
  ·exact h2 x hx
  ·rw [hx];exact hc
 split
 ·split
  ·rename_i f hf
   split
   ·refine ⟨h1,h2,by simp;omega,fun x hx=>?_⟩
    rcases List.mem_append.1 hx with hx | hx
    ·exact h4 x hx
    ·rw [List.mem_singleton.1 hx]
     refine xrV ?_ hc hf
     unfold kC
     rw [List.getD_eq_getElem?_getD]
     cases hq:k.Chains[(kI k c).toNat]? with
     | none=>simp [xaq,xbn]
     | some q=>exact h2 q (List.mem_of_getElem? hq)
   ·exact ⟨h1,h2,h3,h4⟩
  ·exact ⟨h1,h2,h3,h4⟩
 ·exact ⟨h1,h2,h3,h4⟩
theorem xrp {k:xaJ} {a:xat} {z:Int} (hk:KB k) (ha:xaK a≤1048576):KB (xmA k a z).1:=by
 unfold xmA
 split
 ·exact xkg hk (xbm ha).1
 ·exact hk
def xdh (z:Int) (s:ByteArray) (now:Int):xaJ→List Int→Nat→List xat→xaJ×List Int×Option (Nat×xat)
 | k,cs,_,[]=>(k,cs,none)
 | k,cs,i,a::r=>if xmC k a z s now=1 then ((xmA k a z).1,cs++[xmC k a z s now],some (i,a)) else xdh z s now (xmA k a z).1 (cs++[xmC k a z s now]) (i+1) r
theorem xlS {z:Int} {s:ByteArray} {now:Int}:∀{l:List xat} {k:xaJ} {cs:List Int} {i:Nat},KB k→(∀a∈l,xaK a≤1048576)→KB (xdh z s now k cs i l).1
 | [],k,cs,i,hk,_=>hk
 | a::r,k,cs,i,hk,hl=>by
  rw [xdh]
  have h1:=xrp (z:=z) hk (hl a List.mem_cons_self)
  split
  ·exact h1
  ·exact xlS h1 fun x hx=>hl x (List.mem_cons_of_mem _ hx)
theorem xgm {z:Int} {s:ByteArray} {now:Int}:∀{l:List xat} {k:xaJ} {cs:List Int} {i j:Nat} {a:xat},(xdh z s now k cs i l).2.2=some (j,a)→i≤j∧l[j-i]? = some a∧(xdh z s now k cs i l).2.1.length=cs.length+(j-i)+1
 | [],k,cs,i,j,a,h=>by cases h
 | b::r,k,cs,i,j,a,h=>by
  rw [xdh] at h ⊢
  split at h
  ·rename_i hc
   rw [if_pos hc]
   cases h
   simp
  ·rename_i hc
   rw [if_neg hc]
   obtain ⟨h1,h2,h3⟩:=xgm h
   refine ⟨by omega,?_,?_⟩
   ·rw [show j-i=(j-(i+1))+1 by omega,List.getElem?_cons_succ];exact h2
   ·rw [h3];simp;omega
def xni:xat:=⟨[],false,xaO,xef,xpL⟩
def xdE (c:xbE) (z:Int) (s:ByteArray):xat:=match c.Lst[(idx (isS z s) c.Lst).toNat]? with
 | some x=>if decide (idx (isS z s) c.Lst<0)=true then xni else x.Answer
 | none=>xni
def xjF (c:xbE) (z:Int) (s:ByteArray) (a:xat) (now:Int):xbE :=
 if xki z s a now=1 then (if decide (0≤idx (isS z s) c.Lst)=true then ⟨c.Lst.set (idx (isS z s) c.Lst).toNat ⟨z,s,a⟩⟩ else if (c.Lst.length:Int)<16 then ⟨c.Lst++[⟨z,s,a⟩]⟩ else c) else c
theorem mzA:xaK xni≤1048576:=by decide
theorem xrU {c:xbE} {z:Int} {s:ByteArray} (h:CB c):xaK (xdE c z s)≤1048576:=by
 unfold xdE
 split
 ·rename_i x hx
  split
  ·exact mzA
  ·exact (h.2 x (List.mem_of_getElem? hx)).2
 ·exact mzA
theorem xsZ {c:xbE} {z:Int} {s:ByteArray} {a:xat} {now:Int} (h:CB c) (hs:s.size≤1048576) (ha:xaK a≤1048576):CB (xjF c z s a now):=by
 obtain ⟨h1,h2⟩:=h
 unfold xjF
 split
 rotate_left
 ·exact ⟨h1,h2⟩
 split
 ·refine ⟨by simpa using h1,fun x hx=>?_⟩
  rcases List.mem_or_eq_of_mem_set hx with hx | hx
  ·exact h2 x hx
  ·rw [hx];exact ⟨hs,ha⟩
 split
 ·refine ⟨by simp;omega,fun x hx=>?_⟩
  rcases List.mem_append.1 hx with hx | hx
  ·exact h2 x hx
  ·rw [List.mem_singleton.1 hx];exact ⟨hs,ha⟩
 ·exact ⟨h1,h2⟩
structure RSt where
 k:xaJ
 c:xbE
 z:Int
 path:List ByteArray
 mv:Int
 zs:List Int
structure xpz where
 k:xaJ
 c:xbE
 code:Int
 e:xaS
 zs:List Int
 mv:Int
def xd5 (l:List ByteArray):ByteArray:=match l[0]? with | some s=>s | none=>⟨#[]⟩
def xdG (ask:Int→ByteArray→List xat) (t:RSt):List xat:=xdE t.c t.z (xd5 t.path)::ask t.z (xd5 t.path)
def sLk (ask:Int→ByteArray→List xat) (now:Int) (t:RSt):=xdh t.z (xd5 t.path) now t.k [] 0 (xdG ask t)
def sCa (ask:Int→ByteArray→List xat) (now:Int) (t:RSt):xbE:=match (sLk ask now t).2.2 with
 | some (_,a)=>xjF t.c t.z (xd5 t.path) a now
 | none=>t.c
def xdD (ask:Int→ByteArray→List xat) (now:Int) (t:RSt):xpz ⊕ RSt :=
 match (sLk ask now t).2.2 with
 | none=>.inl ⟨(sLk ask now t).1,sCa ask now t,3,xaO,t.zs++[t.z],t.mv⟩
 | some (_,a) =>
  if a.Found=false then .inl ⟨(sLk ask now t).1,sCa ask now t,2,xaO,t.zs++[t.z],t.mv⟩ else
  if a.Entry.Kind=3 then
   (if (decide (3≤t.mv)||!xct (a.Entry.Path++t.path.drop 1))=true then .inl ⟨(sLk ask now t).1,sCa ask now t,5,xaO,t.zs++[t.z],t.mv⟩
    else .inr ⟨(sLk ask now t).1,sCa ask now t,a.Entry.Value,a.Entry.Path++t.path.drop 1,t.mv+1,t.zs++[t.z]⟩)
  else if (t.path.drop 1).length=0 then .inl ⟨(sLk ask now t).1,sCa ask now t,1,a.Entry,t.zs++[t.z],t.mv⟩
  else if a.Entry.Kind=2 then .inr ⟨(sLk ask now t).1,sCa ask now t,a.Entry.Value,t.path.drop 1,t.mv,t.zs++[t.z]⟩
  else .inl ⟨(sLk ask now t).1,sCa ask now t,4,xaO,t.zs++[t.z],t.mv⟩
def xkp (ask:Int→ByteArray→List xat) (now:Int):Nat→RSt→xpz
 | 0,t=>⟨t.k,t.c,0,xaO,t.zs,t.mv⟩
 | n+1,t=>match xdD ask now t with
  | .inl o=>o
  | .inr t=>xkp ask now n t
def mu (t:RSt):Nat:=(3-t.mv).toNat*5+t.path.length
structure PB (p:List ByteArray):Prop where
 pos:1≤p.length
 le:p.length≤4
 lab:∀s∈p,xcz s=true
theorem xhR {p:List ByteArray} (h:xct p=true):PB p:=by
 unfold xct inR at h
 simp only [Bool.and_eq_true,decide_eq_true_eq,Bool.not_eq_true',List.any_eq_false,Bool.not_eq_false'] at h
 exact ⟨by omega,by omega,fun s hs=>by simpa using h.2 s hs⟩
theorem xha {s:ByteArray} (h:xcz s=true):s.size≤8:=by
 unfold xcz inR at h
 simp only [Bool.and_eq_true,decide_eq_true_eq] at h
 omega
structure RI (t:RSt):Prop where
 k:KB t.k
 c:CB t.c
 p:PB t.path
 mv0:0≤t.mv
 mv3:t.mv≤3
 zs:t.zs.length+mu t≤1000
theorem PB.first {p:List ByteArray} (h:PB p):∃s r,p=s::r∧xd5 p=s∧s.size≤1048576∧xcz s=true:=by
 cases p with
 | nil=>have:=h.pos;simp at this
 | cons s r =>
  have:=h.lab s List.mem_cons_self
  exact ⟨s,r,rfl,rfl,by have:=xha this;omega,this⟩
theorem xgB {ask:Int→ByteArray→List xat} {t:RSt} (hA:∀z s,∀a∈ask z s,xaK a≤1048576) (h:RI t):∀a∈xdG ask t,xaK a≤1048576:=by
 intro a ha
 unfold xdG at ha
 rcases List.mem_cons.1 ha with rfl | ha
 ·exact xrU h.c
 ·exact hA _ _ a ha
theorem xuM {ask:Int→ByteArray→List xat} {now:Int} {t:RSt} (hA:∀z s,∀a∈ask z s,xaK a≤1048576) (h:RI t):CB (sCa ask now t):=by
 unfold sCa
 split
 ·rename_i i a hl
  obtain ⟨s,r,hp,hf,hs,_⟩:=h.p.first
  have ha:=(xgm (show (xdh t.z (xd5 t.path) now t.k [] 0 (xdG ask t)).2.2=some (i,a) from hl)).2.1
  exact xsZ h.c (by rw [hf];exact hs) (xgB hA h a (List.mem_of_getElem? ha))
 ·exact h.c
theorem xlF {ask:Int→ByteArray→List xat} {now:Int} {t t':RSt} (hA:∀z s,∀a∈ask z s,xaK a≤1048576) (h:RI t) (hs:xdD ask now t=.inr t'):RI t'∧mu t'<mu t∧t'.zs=t.zs++[t.z]:=by
 have hk:KB (sLk ask now t).1:=xlS h.k (xgB hA h)
 have hc:=xuM (now:=now) hA h
 have hz:=h.zs
 have h0:=h.mv0
 have h3:=h.mv3
 have hp:=h.p.pos
 unfold xdD at hs
 split at hs
 ·cases hs
 split at hs
 ·cases hs
 split at hs
 ·split at hs
  ·cases hs
  ·rename_i hb
   simp only [Bool.or_eq_true,decide_eq_true_eq,Bool.not_eq_true',not_or,Bool.not_eq_false] at hb
   cases hs
   have hpb:=xhR hb.2
   have hple:=hpb.le
   have hm:mu (⟨(sLk ask now t).1,sCa ask now t,‹xat›.Entry.Value,‹xat›.Entry.Path++t.path.drop 1,t.mv+1,t.zs++[t.z]⟩:RSt)<mu t:=by
    unfold mu
    simp only
    have:(3-t.mv).toNat=(3-(t.mv+1)).toNat+1:=by omega
    omega
   exact ⟨⟨hk,hc,hpb,by simp only;omega,by simp only;omega,by simp only [List.length_append,List.length_singleton];omega⟩,hm,rfl⟩
 split at hs
 ·cases hs
 rename_i hr
 split at hs
 rotate_left
 ·cases hs
 cases hs
 obtain ⟨s,r,hp1,_,_,_⟩:=h.p.first
 have hpl:=h.p.le
 rw [hp1] at hr hpl
 simp only [List.drop_succ_cons,List.drop_zero,List.length_cons] at hr hpl
 have hm:mu (⟨(sLk ask now t).1,sCa ask now t,‹xat›.Entry.Value,t.path.drop 1,t.mv,t.zs++[t.z]⟩:RSt)<mu t:=by
  unfold mu
  rw [hp1]
  simp
 refine ⟨⟨hk,hc,⟨?_,?_,fun x hx=>?_⟩,h0,h3,by simp only [List.length_append,List.length_singleton];omega⟩,hm,rfl⟩
 ·simp only [hp1,List.drop_succ_cons,List.drop_zero];omega
 ·simp only [hp1,List.drop_succ_cons,List.drop_zero];omega
 ·exact h.p.lab x (List.mem_of_mem_drop hx)
theorem xhU (f:xcT) (h:FB f) (k):call Qdp [.agg (xbw f)] k=k (xbw f):=xaa (fun k=>by
 obtain ⟨h1,h2,h3⟩:=h
 simp [Qdp,xmp f.Before h1,xmp f.A h2,xmp f.B h3]) k
theorem xix (f:xcT) (h:FB f) (k):call Qbg [.agg (xbw f)] k=k (xbw f):=xaa (fun k=>by
 obtain ⟨h1,h2,h3⟩:=h
 simp [Qbg,xlz f.Before h1,xlz f.A h2,xlz f.B h3]) k
theorem xc6 (a:xaJ) (h:KB a) (k):call Qdq [.agg (xcb a)] k=k (xcb a):=xaa (fun k=>by
 obtain ⟨hc,hc0,hf,hf0⟩:=h
 simp [Qdq]
 refine xbI a.Chains (fun i=>[(.list 1 (a.Chains.map xdL)),I a.Chains.length,I i,(.list 1 (a.Chains.map xdL)),(.list 51 (a.Forks.map xbw)),.list 51 [],.list 1 [],.list 51 [],.list 1 ((a.Chains.take i).map xdL)]) (by simp) (fun i x hx hi K=>?_) fun K=>?_
 ·have e:=xsD x (hc0 x (List.mem_of_getElem? hx))
  rw [xa0 hx,List.map_append]
  simp [-getElem?_pos,Qdq_r0,hx,hi,e,xap (show i<1000000000000000000 by omega)]
  try omega
 ·simp [Qdq_r0]
  refine xbI a.Forks (fun i=>[(.list 1 (a.Chains.map xdL)),I a.Chains.length,I a.Chains.length,(.list 51 (a.Forks.map xbw)),I a.Forks.length,I i,(.list 1 (a.Chains.map xdL)),(.list 51 (a.Forks.map xbw)),.list 51 [],.list 1 [],.list 51 ((a.Forks.take i).map xbw),(.list 1 (a.Chains.map xdL))]) (by simp) (fun i x hx hi K=>?_) fun K=>?_
  ·have e:=xhU x (hf0 x (List.mem_of_getElem? hx))
   rw [xa0 hx,List.map_append]
   simp [-getElem?_pos,Qdq_r1,hx,hi,e,xap (show i<1000000000000000000 by omega)]
   try omega
  ·simp [Qdq_r1]) k
theorem xdA (a:xaJ) (h:KB a) (k):call Qbh [.agg (xcb a)] k=k (xcb a):=xaa (fun k=>by
 obtain ⟨hc,hc0,hf,hf0⟩:=h
 simp [Qbh]
 refine xbI a.Chains (fun i=>[I i,(.list 1 (a.Chains.map xdL)),(.list 51 (a.Forks.map xbw)),.list 51 [],.list 1 [],.list 51 [],.list 1 ((a.Chains.take i).map xdL)]) (by simp) (fun i x hx hi K=>?_) fun K=>?_
 ·have e:=xsP x (hc0 x (List.mem_of_getElem? hx))
  rw [xa0 hx,List.map_append]
  simp [-getElem?_pos,Qbh_r0,hx,hi,e,xap (show i<1000000000000000000 by omega)]
  try omega
 ·simp [Qbh_r0]
  refine xbI a.Forks (fun i=>[I a.Chains.length,I i,(.list 1 (a.Chains.map xdL)),(.list 51 (a.Forks.map xbw)),.list 51 [],.list 1 [],.list 51 ((a.Forks.take i).map xbw),(.list 1 (a.Chains.map xdL))]) (by simp) (fun i x hx hi K=>?_) fun K=>?_
  ·have e:=xix x (hf0 x (List.mem_of_getElem? hx))
   rw [xa0 hx,List.map_append]
   simp [-getElem?_pos,Qbh_r1,hx,hi,e,xap (show i<1000000000000000000 by omega)]
   try omega
  ·simp [Qbh_r1]) k
theorem xgp (s:xbz) (h:SB s) (k):call Qdu [.agg (xa4 s)] k=k (xa4 s):=xaa (fun k=>by
 simp [Qdu,xsB s.Answer h.2]) k
theorem xei (a:xbE) (h:CB a) (k):call Qdv [.agg (xbC a)] k=k (xbC a):=xaa (fun k=>by
 obtain ⟨hl,hx0⟩:=h
 simp [Qdv]
 refine xbI a.Lst (fun i=>[.list 23 (a.Lst.map xa4),I a.Lst.length,I i,.list 23 [],.list 23 ((a.Lst.take i).map xa4)]) (by simp) (fun i x hx hi K=>?_) fun K=>?_
 ·have e:=xgp x (hx0 x (List.mem_of_getElem? hx))
  rw [xa0 hx,List.map_append]
  simp [-getElem?_pos,Qdv_r0,hx,hi,e,xap (show i<1000000000000000000 by omega)]
  try omega
 ·simp [Qdv_r0]) k
theorem xe6 (a:xbE) (h:CB a) (k):call Qbn [.agg (xbC a)] k=k (xbC a):=xaa (fun k=>by
 obtain ⟨hl,hx0⟩:=h
 simp [Qbn]
 refine xbI a.Lst (fun i=>[I i,.list 23 (a.Lst.map xa4),.list 23 [],.list 23 ((a.Lst.take i).map xa4)]) (by simp) (fun i x hx hi K=>?_) fun K=>?_
 ·have e:=xsM x.Answer (hx0 x (List.mem_of_getElem? hx)).2
  rw [xa0 hx,List.map_append]
  simp [-getElem?_pos,Qbn_r0,hx,hi,e,xap (show i<1000000000000000000 by omega)]
  try omega
 ·simp [Qbn_r0]) k
theorem xjW (f:xcT) (h:FB f) (k):call Qjw [.agg (xbw f)] k=k [.bool (xfn f)]:=xaa (fun k=>by
 obtain ⟨h1,h2,h3⟩:=h
 have e1:=xqP f.A.Head f.B.Head (xa1 h2).1 (xa1 h3).1
 have e2:=xuU f.Before xgT h1 mzS
 have e3:=xsz f.A h2
 have e4:=xsz f.B h3
 have e5:=xsx f.Before.Head f.A (xa1 h1).1 h2
 have e6:=xsx f.Before.Head f.B (xa1 h1).1 h3
 simp only [Qjw,un,cur0]
 rw [show [I 0,I 0,I 0,I 0,I 0,I 0,I 0,I 0,PV.list 1 [],I 0,PV.list 1 [],I 0,I 0,PV.list 1 [],I 0,PV.bool false,PV.list 2 []]=xal xgT from rfl]
 simp only [e1,e2,e3,e4,e5,e6,xaD,xdZ,xaf,xah,xav,xam,xai,xar,true_and]
 unfold xfn
 cases decide (f.A.Head=f.B.Head)<;>cases decide (f.Before=xgT)<;>cases xcG f.A<;>cases xcG f.B<;>cases xnp f.Before.Head f.A<;>simp) k
theorem xjD (f:xcT) (h:FB f) (k):call Qii [.agg (xbw f)] k=k [.bool (xfn f)]:=xaa (fun k=>by
 obtain ⟨h1,h2,h3⟩:=h
 have e1:=xqR f.A.Head f.B.Head (xa1 h2).1 (xa1 h3).1
 have e2:=xu4 f.Before xgT h1 mzS
 have e3:=xsJ f.A h2
 have e4:=xsJ f.B h3
 have e5:=xsH f.Before.Head f.A (xa1 h1).1 h2
 have e6:=xsH f.Before.Head f.B (xa1 h1).1 h3
 simp only [Qii,un,cur0]
 rw [show [I 0,I 0,I 0,I 0,I 0,I 0,I 0,I 0,PV.list 1 [],I 0,PV.list 1 [],I 0,I 0,PV.list 1 [],I 0,PV.bool false,PV.list 2 []]=xal xgT from rfl]
 simp only [e1,e2,e3,e4,e5,e6,xaD,xdZ,xaf,xah,xav,xam,xai,xar,true_and]
 unfold xfn
 cases decide (f.A.Head=f.B.Head)<;>cases decide (f.Before=xgT)<;>cases xcG f.A<;>cases xcG f.B<;>cases xnp f.Before.Head f.A<;>simp) k
theorem xhV (f:xcT) (h:FB f) (k):call Qjx [.agg (xbw f)] k=k [I (sFZ f)]:=xaa (fun k=>by
 have e:=xjW f h
 simp only [Qjx,un,cur0]
 simp only [e,xa8,xaf,xah,xav,xam,xai,xao,true_and]
 unfold sFZ
 cases xfn f<;>simp) k
theorem xhr (f:xcT) (h:FB f) (k):call Qij [.agg (xbw f)] k=k [I (sFZ f)]:=xaa (fun k=>by
 have e:=xjD f h
 simp only [Qij,un,cur0]
 simp only [e,xa8,xaf,xah,xav,xam,xai,xao,true_and]
 unfold sFZ
 cases xfn f<;>simp) k
theorem xgs (f:xcT) (z:Int) (h:FB f) (k):call Qjy [.agg (xbw f),.ro (.cells [I z])] k=k [.bool (decide (sFZ f=z))]:=xaa (fun k=>by
 have e:=xhV f h
 simp only [Qjy,un,cur0]
 simp only [e,xaD,xdZ,xaf,xav,xam,xai,xar,true_and]) k
theorem xoY (k:xaJ) (z:Int) (h:0≤z):xdF k z=k.Forks.any (fun f=>decide (sFZ f=z)):=by
 unfold xdF
 simp [h]
theorem xeE (a:xaJ) (z:Int) (h:KB a) (k):call Qkb [.agg (xcb a),.one (I z)] k=k [.bool (xdF a z)]:=xaa (fun k=>by
 obtain ⟨_,_,hf,hf0⟩:=h
 have e0:∀k,call Qjz [.one (.list 51 (a.Forks.map xbw)),.fn 338 [.cells [I z]]] k=k [I (idx (fun f=>decide (sFZ f=z)) a.Forks)]:=xaa (fun k=>by
  simp [Qjz]
  refine xfs (Q:=fun i=>k [I i]) a.Forks (fun i=>[.list 51 (a.Forks.map xbw),I z,I 0,I a.Forks.length,I i]) (fun f=>decide (sFZ f=z)) rfl (fun i x hx hi K=>?_) fun K=>?_
  ·have e:=xgs x z (hf0 x (List.mem_of_getElem? hx))
   simp [-getElem?_pos,Qjz_r0,hx,hi,e,xap (show i<1000000000000000000 by omega)]
  ·simp [Qjz_r0])
 have e:∀k,call Qka [.one (.list 51 (a.Forks.map xbw)),.fn 338 [.cells [I z]]] k=k [.bool (a.Forks.any fun f=>decide (sFZ f=z))]:=xaa (fun k=>by
  simp only [Qka,un,cur0,e0,xb4,xaf,xav,xam,xai,xar,true_and,xl1])
 simp only [Qkb,un,cur0,xb4,xah]
 by_cases hz:0≤z
 ·simp [hz,e,xoY a z hz]
 ·simp [hz,xdF]) k
theorem xer (a:xaJ) (z:Int) (h:KB a) (k):call Qik [.agg (xcb a),.one (I z)] k=k [.bool (xdF a z)]:=xaa (fun k=>by
 obtain ⟨_,_,hf,hf0⟩:=h
 simp only [Qik,un,cur0]
 have hs:xdF a z=(a.Forks.any (fun f=>decide (sFZ f=z)&&decide (0≤z))==true):=by
  unfold xdF
  by_cases hz:0≤z<;>simp [hz]
 rw [hs]
 refine xrQ k true a.Forks (fun i=>[I z,.bool false,I i,chains a.Chains,.list 51 (a.Forks.map xbw)]) (fun f=>decide (sFZ f=z)&&decide (0≤z)) rfl (fun i x hx hi K=>?_) fun K=>?_
 ·have e:=xhr x (hf0 x (List.mem_of_getElem? hx))
  simp [-getElem?_pos,Qik_r0,hx,hi,e,xap (show i<1000000000000000000 by omega)]
  by_cases h1:sFZ x=z<;>by_cases h2:0≤z<;>simp [h1,h2]
 ·simp [Qik_r0]) k
theorem xhX {α:Type} {p:α→Bool} {l:List α} (h:¬idx p l<0):0≤idx p l∧(idx p l).toNat<l.length∧∃d,l[(idx p l).toNat]? = some d:=by
 have hb:=xmW p l 0
 unfold idx at h ⊢
 rcases hb with h1 | ⟨h1,h2⟩
 ·omega
 ·have hl:(xeH p 0 l).toNat<l.length:=by omega
  exact ⟨by omega,hl,l[(xeH p 0 l).toNat],List.getElem?_eq_getElem hl⟩
theorem xqj {k:xaJ} {c d:List xag} (h:k.Chains[(kI k c).toNat]? = some d):kC k c=d:=by
 unfold kC;rw [List.getD_eq_getElem?_getD,h];rfl
theorem xl0 (a:xaJ) (l:List xag) (hk:KB a) (h:xaq l≤1048576) (k):call Qjr [.agg (xcb a),.one (.list 17 (l.map xal))] k=k [I (xc4 a l)]:=xaa (fun k=>by
 have e1:=xpA l h
 unfold xc4
 cases c1:xaM l with
 | false=>simp [Qjr,e1,c1]
 | true =>
 obtain ⟨s,hs⟩:=xcc c1
 have hz:fz l=s.Head.Zone:=by simp [fz,hs]
 have e2:∀k,call Qjo [.agg [chains a.Chains,.list 51 (a.Forks.map xbw)],.one (I s.Head.Zone)] k=k [I (kI a l)]:=by
  have:=xft a (fz l) hk.1
  rw [hz] at this
  unfold kI
  rw [hz]
  exact this
 have hlen:=xaL hs
 by_cases c2:kI a l<0
 ·simp [-getElem?_pos,Qjr,e1,c1,hs,e2,c2]
 ·obtain ⟨h0,hl,d,hd⟩:=xhX (p:=xl5 (fz l)) (l:=a.Chains) c2
  have hd':a.Chains[(kI a l).toNat]? = some d:=hd
  have h0':0≤kI a l:=h0
  have hC:=xqj hd'
  have hm:=hk.2.1 d (List.mem_of_getElem? hd)
  have e3:=xqO d l hm h
  have e4:=xqO l d h hm
  rw [hC]
  simp [-getElem?_pos,Qjr,e1,c1,hs,e2,c2,hd',h0',e3,e4]
  cases xiu d l<;>cases xiu l d<;>simp) k
theorem xlG (a:xaJ) (l:List xag) (hk:KB a) (h:xaq l≤1048576) (k):call Qht [.agg (xcb a),.one (.list 17 (l.map xal))] k=k [I (xc4 a l)]:=xaa (fun k=>by
 have e1:=xqV l h
 unfold xc4
 cases c1:xaM l with
 | false=>simp [Qht,e1,c1]
 | true =>
 obtain ⟨s,hs⟩:=xcc c1
 have hz:fz l=s.Head.Zone:=by simp [fz,hs]
 have e2:∀k,call Qhq [.agg [chains a.Chains,.list 51 (a.Forks.map xbw)],.one (I s.Head.Zone)] k=k [I (kI a l)]:=by
  have:=xsr a (fz l) hk.1
  rw [hz] at this
  unfold kI
  rw [hz]
  exact this
 have hlen:=xaL hs
 by_cases c2:kI a l<0
 ·simp [-getElem?_pos,Qht,e1,c1,hs,e2,c2]
 ·obtain ⟨h0,hl,d,hd⟩:=xhX (p:=xl5 (fz l)) (l:=a.Chains) c2
  have hd':a.Chains[(kI a l).toNat]? = some d:=hd
  have h0':0≤kI a l:=h0
  have hC:=xqj hd'
  have hm:=hk.2.1 d (List.mem_of_getElem? hd)
  have e3:=xqQ d l hm h
  have e4:=xqQ l d h hm
  rw [hC]
  simp [-getElem?_pos,Qht,e1,c1,hs,e2,c2,hd',h0',e3,e4]
  cases xiu d l<;>cases xiu l d<;>simp) k
theorem xkO (a:xaJ) (l:List xag) (hk:KB a) (h:xaq l≤1048576) (k):call Qjt [.agg (xcb a),.one (.list 17 (l.map xal))] k=k (xcb (xcY a l).1++[I (xcY a l).2]):=xaa (fun k=>by
 have e1:=xc6 a hk
 have e2:=xl0 a l hk h
 have e3:=xsD l h
 have hch:=hk.1
 have hfl:=hk.2.2.1
 unfold xcY
 by_cases c1:xc4 a l=1
 ·by_cases c2:(8:Int)≤a.Chains.length
  ·simp [Qjt,e1,e2,e3,c1,c2]
  ·simp [Qjt,e1,e2,e3,c1,c2,show a.Chains.length<1073741823 by omega]
   try (intro _;omega)
 by_cases c3:xc4 a l=3
 ·have hc:xaM l=true:=by
   by_cases hc:xaM l=true
   ·exact hc
   ·unfold xc4 at c3;rw [if_neg hc] at c3;cases c3
  have hi:¬kI a l<0:=by
   intro hi
   unfold xc4 at c3;rw [if_pos hc,if_pos (by simpa using hi)] at c3;cases c3
  obtain ⟨s,hs⟩:=xcc hc
  have hz:fz l=s.Head.Zone:=by simp [fz,hs]
  have e4:∀k,call Qjo [.agg [chains a.Chains,.list 51 (a.Forks.map xbw)],.one (I s.Head.Zone)] k=k [I (kI a l)]:=by
   have:=xft a (fz l) hk.1
   rw [hz] at this
   unfold kI
   rw [hz]
   exact this
  obtain ⟨h0,hl,d,hd⟩:=xhX (p:=xl5 (fz l)) (l:=a.Chains) hi
  have hd':a.Chains[(kI a l).toNat]? = some d:=hd
  have h0':0≤kI a l:=h0
  have hl':(kI a l).toNat<a.Chains.length:=hl
  have hlen:=xaL hs
  simp [-getElem?_pos,Qjt,e1,e2,e3,c3,hs,e4,h0',hl',hd',over]
 by_cases c5:xc4 a l=5
 ·have hc:xaM l=true:=by
   by_cases hc:xaM l=true
   ·exact hc
   ·unfold xc4 at c5;rw [if_neg hc] at c5;cases c5
  have hi:¬kI a l<0:=by
   intro hi
   unfold xc4 at c5;rw [if_pos hc,if_pos (by simpa using hi)] at c5;cases c5
  obtain ⟨s,hs⟩:=xcc hc
  have hz:fz l=s.Head.Zone:=by simp [fz,hs]
  have e4:∀k,call Qjo [.agg [chains a.Chains,.list 51 (a.Forks.map xbw)],.one (I s.Head.Zone)] k=k [I (kI a l)]:=by
   have:=xft a (fz l) hk.1
   rw [hz] at this
   unfold kI
   rw [hz]
   exact this
  obtain ⟨h0,hl,d,hd⟩:=xhX (p:=xl5 (fz l)) (l:=a.Chains) hi
  have hd':a.Chains[(kI a l).toNat]? = some d:=hd
  have h0':0≤kI a l:=h0
  have hl':(kI a l).toNat<a.Chains.length:=hl
  have hC:=xqj hd'
  have hm:=hk.2.1 d (List.mem_of_getElem? hd)
  have e5:=xuW d l hm h
  have hlen:=xaL hs
  rw [hC]
  cases hf:xd4 d l with
  | none =>
   rw [hf] at e5
   simp [-getElem?_pos,Qjt,e1,e2,e3,c5,hs,e4,h0',hl',hd',e5,xcZ]
  | some f =>
   rw [hf] at e5
   by_cases c6:(a.Forks.length:Int)<8
   ·simp [-getElem?_pos,Qjt,e1,e2,e3,c5,hs,e4,h0',hl',hd',e5,xcZ,c6,show a.Forks.length<1073741823 by omega]
    try (intro _;omega)
   ·simp [-getElem?_pos,Qjt,e1,e2,e3,c5,hs,e4,h0',hl',hd',e5,xcZ,c6]
 simp [Qjt,e1,e2,e3,c1,c3,c5]) k
theorem xkk (a:xaJ) (l:List xag) (hk:KB a) (h:xaq l≤1048576) (k):call Qhv [.agg (xcb a),.one (.list 17 (l.map xal))] k=k (xcb (xcY a l).1++[I (xcY a l).2]):=xaa (fun k=>by
 have e1:=xdA a hk
 have e2:=xlG a l hk h
 have e3:=xsP l h
 have hch:=hk.1
 have hfl:=hk.2.2.1
 unfold xcY
 by_cases c1:xc4 a l=1
 ·by_cases c2:(8:Int)≤a.Chains.length
  ·simp [Qhv,e1,e2,e3,c1,c2]
  ·simp [Qhv,e1,e2,e3,c1,c2,show a.Chains.length<1073741823 by omega]
   try (intro _;omega)
 by_cases c3:xc4 a l=3
 ·have hc:xaM l=true:=by
   by_cases hc:xaM l=true
   ·exact hc
   ·unfold xc4 at c3;rw [if_neg hc] at c3;cases c3
  have hi:¬kI a l<0:=by
   intro hi
   unfold xc4 at c3;rw [if_pos hc,if_pos (by simpa using hi)] at c3;cases c3
  obtain ⟨s,hs⟩:=xcc hc
  have hz:fz l=s.Head.Zone:=by simp [fz,hs]
  have e4:∀k,call Qhq [.agg [chains a.Chains,.list 51 (a.Forks.map xbw)],.one (I s.Head.Zone)] k=k [I (kI a l)]:=by
   have:=xsr a (fz l) hk.1
   rw [hz] at this
   unfold kI
   rw [hz]
   exact this
  obtain ⟨h0,hl,d,hd⟩:=xhX (p:=xl5 (fz l)) (l:=a.Chains) hi
  have hd':a.Chains[(kI a l).toNat]? = some d:=hd
  have h0':0≤kI a l:=h0
  have hl':(kI a l).toNat<a.Chains.length:=hl
  have hlen:=xaL hs
  simp [-getElem?_pos,Qhv,e1,e2,e3,c3,hs,e4,h0',hl',hd',over]
 by_cases c5:xc4 a l=5
 ·have hc:xaM l=true:=by
   by_cases hc:xaM l=true
   ·exact hc
   ·unfold xc4 at c5;rw [if_neg hc] at c5;cases c5
  have hi:¬kI a l<0:=by
   intro hi
   unfold xc4 at c5;rw [if_pos hc,if_pos (by simpa using hi)] at c5;cases c5
  obtain ⟨s,hs⟩:=xcc hc
  have hz:fz l=s.Head.Zone:=by simp [fz,hs]
  have e4:∀k,call Qhq [.agg [chains a.Chains,.list 51 (a.Forks.map xbw)],.one (I s.Head.Zone)] k=k [I (kI a l)]:=by
   have:=xsr a (fz l) hk.1
   rw [hz] at this
   unfold kI
   rw [hz]
   exact this
  obtain ⟨h0,hl,d,hd⟩:=xhX (p:=xl5 (fz l)) (l:=a.Chains) hi
  have hd':a.Chains[(kI a l).toNat]? = some d:=hd
  have h0':0≤kI a l:=h0
  have hl':(kI a l).toNat<a.Chains.length:=hl
  have hC:=xqj hd'
  have hm:=hk.2.1 d (List.mem_of_getElem? hd)
  have e5:=xvb d l hm h
  have hlen:=xaL hs
  rw [hC]
  cases hf:xd4 d l with
  | none =>
   rw [hf] at e5
   simp [-getElem?_pos,Qhv,e1,e2,e3,c5,hs,e4,h0',hl',hd',e5,xcZ]
  | some f =>
   rw [hf] at e5
   by_cases c6:(a.Forks.length:Int)<8
   ·simp [-getElem?_pos,Qhv,e1,e2,e3,c5,hs,e4,h0',hl',hd',e5,xcZ,c6,show a.Forks.length<1073741823 by omega]
    try (intro _;omega)
   ·simp [-getElem?_pos,Qhv,e1,e2,e3,c5,hs,e4,h0',hl',hd',e5,xcZ,c6]
 simp [Qhv,e1,e2,e3,c1,c3,c5]) k
theorem xoE {R:(List PV→Prop)→List PV→Prop} {z:Int} {s:ByteArray} {now:Int} (l:List xat) (V:Nat→xaJ→List Int→List PV) (fin:xaJ×List Int×Option (Nat×xat)→Prop)
 (ha:∀a∈l,xaK a≤1048576)
 (h:∀i a k cs,l[i]? = some a→i<l.length→KB k→cs.length=i→∀K,R K (V i k cs)↔if xmC k a z s now=1 then fin ((xmA k a z).1,cs++[xmC k a z s now],some (i,a)) else K (V (i+1) (xmA k a z).1 (cs++[xmC k a z s now])))
 (hf:∀k cs K,R K (V l.length k cs)↔fin (k,cs,none)) (k:xaJ) (hk:KB k):lp R (V 0 k [])↔fin (xdh z s now k [] 0 l):=by
 have key:∀(r:List xat) (i:Nat) (k:xaJ) (cs:List Int),l.drop i=r→i≤l.length→KB k→cs.length=i→(lp R (V i k cs)↔fin (xdh z s now k cs i r)):=by
  intro r
  induction r with
  | nil =>
   intro i k cs hd hi hk hc
   have:i=l.length:=by
    have:=congrArg List.length hd
    simp at this;omega
   subst this
   exact xaE (hf k cs)
  | cons a r ih =>
   intro i k cs hd hi hk hc
   have hx:l[i]? = some a:=by
    have:=congrArg (fun q=>q[0]?) hd
    simpa using this
   have hlt:=xaL hx
   have hstep:=h i a k cs hx hlt hk hc
   rw [xdh]
   by_cases he:xmC k a z s now=1
   ·rw [if_pos he]
    exact xaE fun K=>by rw [hstep K,if_pos he]
   ·rw [if_neg he]
    refine (xcm fun K=>by rw [hstep K,if_neg he]).trans ?_
    refine ih (i+1) _ _ ?_ (by omega) (xrp hk (ha a (List.mem_of_getElem? hx))) (by simp [hc])
    rw [←List.drop_drop,hd];rfl
 exact key l 0 k [] rfl (Nat.zero_le _) hk rfl
def xd9 (q:xaJ×List Int×Option (Nat×xat)):xpH:=match q with
 | (k,cs,some (_,a))=>⟨k,a.Found,a.Entry,true,cs⟩
 | (k,cs,none)=>⟨k,false,xaO,false,cs⟩
def xjO (q:xaJ×List Int×Option (Nat×xat)):Int:=match q with
 | (_,_,some (i,_))=>i
 | (_,_,none)=>-1
theorem xoA {k:xaJ} {a:xat} {z:Int} (h1:xaM a.Chain=true) (h2:fz a.Chain=z):xmA k a z=xcY k a.Chain:=by
 unfold xmA;rw [if_pos (by simp [h1,h2])]
theorem xjL {k:xaJ} {a:xat} {z:Int} (h:¬(xaM a.Chain=true∧fz a.Chain=z)):xmA k a z=(k,6):=by
 unfold xmA;rw [if_neg (by simpa using h)]
theorem xaQ (cs:List Int) (c:Int):(ints (cs++[c]))=.list 1 (cs.map rI++[[I c]]):=by simp [rI]
theorem xjU (k0:xaJ) (l:List xat) (z:Int) (s:ByteArray) (now:Int) (hk:KB k0) (hl:l.length≤1048576) (ha:∀a∈l,xaK a≤1048576) (hs:s.size≤1048576) (k) :
 call Qkc [.agg (xcb k0),.one (.list 21 (l.map xaU)),.one (I z),.one (.str s),.one (I now)] k=k (xel (xd9 (xdh z s now k0 [] 0 l))++[I (xjO (xdh z s now k0 [] 0 l))]):=xaa (fun k=>by
 have e0:=xc6 k0 hk
 simp only [Qkc,un,cur0]
 simp only [e0,xaG,List.length_map,xaf,xbl]
 refine xoE (z:=z) (s:=s) (now:=now) l (fun i k cs=>[I z,.str s,I now,I 0,.list 21 (l.map xaU),I l.length,I i,.bool false,.str ⟨#[]⟩,I 0,I 0,.bool false,.bool false,.str ⟨#[]⟩,I 0,I 0,.bool false,.list 1 [],.list 1 [],.list 51 [],.list 1 [],ints cs,.list 1 [],chains k.Chains,.list 51 (k.Forks.map xbw)])
  (fun q=>k (xel (xd9 q)++[I (xjO q)])) ha (fun i a k1 cs hx hi hk1 hc K=>?_) (fun k1 cs K=>?_) k0 hk
 ·have hm:=ha a (List.mem_of_getElem? hx)
  have e1:=xtE z s a now hs hm
  have e2:=xpA a.Chain (xbm hm).1
  have e3:=xkO k1 a.Chain hk1 (xbm hm).1
  have e4:=xeE k1 z hk1
  have e5:=xeE (xcY k1 a.Chain).1 z (xkg hk1 (xbm hm).1)
  have e6:=xpB a.Entry (xbm hm).2.1
  have hcl:cs.length+1<1073741824:=by omega
  by_cases h1:xaM a.Chain=true
  rotate_left
  ·have hM:=xjL (k:=k1) (z:=z) (fun q=>h1 q.1)
   unfold xmC
   rw [hM]
   simp only [show inR 6 1 3=false by decide,Bool.false_and,Bool.not_false,Bool.and_true]
   by_cases hA:xki z s a now=1
   ·simp [-getElem?_pos,xaQ,Qkc_r0,hx,hi,e1,e2,h1,hA,xdn,show inR 6 1 3=false by decide,hcl,xap (show i<1000000000000000000 by omega)]
   ·simp [-getElem?_pos,xaQ,Qkc_r0,hx,hi,e1,e2,h1,hA,xdn,show inR 6 1 3=false by decide,hcl,xap (show i<1000000000000000000 by omega)]
  obtain ⟨c0,hc0⟩:=xcc h1
  have hc0l:=xaL hc0
  have hfz:fz a.Chain=c0.Head.Zone:=by simp [fz,hc0]
  by_cases h2:c0.Head.Zone=z
  rotate_left
  ·have hM:=xjL (k:=k1) (a:=a) (z:=z) (fun q=>h2 (by rw [←hfz];exact q.2))
   unfold xmC
   rw [hM]
   simp only [show inR 6 1 3=false by decide,Bool.false_and,Bool.not_false,Bool.and_true]
   by_cases hA:xki z s a now=1
   ·simp [-getElem?_pos,xaQ,Qkc_r0,hx,hi,e1,e2,h1,hc0,h2,hA,xdn,show inR 6 1 3=false by decide,hcl,xap (show i<1000000000000000000 by omega)]
   ·simp [-getElem?_pos,xaQ,Qkc_r0,hx,hi,e1,e2,h1,hc0,h2,hA,xdn,show inR 6 1 3=false by decide,hcl,xap (show i<1000000000000000000 by omega)]
  have hM:=xoA (k:=k1) (z:=z) h1 (by rw [hfz];exact h2)
  unfold xmC
  rw [hM]
  by_cases hA:xki z s a now=1<;>by_cases hr:inR (xcY k1 a.Chain).2 1 3=true<;>by_cases hF:xdF (xcY k1 a.Chain).1 z=true
  all_goals try simp only [Bool.not_eq_true] at hr
  all_goals try simp only [Bool.not_eq_true] at hF
  all_goals simp [-getElem?_pos,xaQ,Qkc_r0,hx,hi,e1,e2,e3,e5,e6,h1,hc0,h2,hA,hr,hF,xdn,hcl,xd9,xjO,xap (show i<1000000000000000000 by omega)]
 ·simp [Qkc_r0,xd9,xjO,xaO]
  rfl) k
theorem xjC (k0:xaJ) (l:List xat) (z:Int) (s:ByteArray) (now:Int) (hk:KB k0) (hl:l.length≤1048576) (ha:∀a∈l,xaK a≤1048576) (hs:s.size≤1048576) (k) :
 call Qil [.agg (xcb k0),.one (.list 21 (l.map xaU)),.one (I z),.one (.str s),.one (I now)] k=k (xel (xd9 (xdh z s now k0 [] 0 l))):=xaa (fun k=>by
 have e0:=xdA k0 hk
 simp only [Qil,un,cur0]
 simp only [e0,xaf,xbl]
 refine xoE (z:=z) (s:=s) (now:=now) l (fun i k cs=>[.list 21 (l.map xaU),I z,.str s,I now,I i,chains k.Chains,.list 51 (k.Forks.map xbw),.bool false,.str ⟨#[]⟩,I 0,I 0,.list 1 [],.bool false,.list 1 [],.list 51 [],.bool false,.str ⟨#[]⟩,I 0,I 0,.list 1 [],.bool false,.list 1 [],ints cs])
  (fun q=>k (xel (xd9 q))) ha (fun i a k1 cs hx hi hk1 hc K=>?_) (fun k1 cs K=>?_) k0 hk
 ·have hm:=ha a (List.mem_of_getElem? hx)
  have e1:=xtJ z s a now hs hm
  have e2:=xtZ a.Chain (xbm hm).1
  have e3:=xkk k1 a.Chain hk1 (xbm hm).1
  have e4:=xer k1 z hk1
  have e5:=xer (xcY k1 a.Chain).1 z (xkg hk1 (xbm hm).1)
  have e6:=xpD a.Entry (xbm hm).2.1
  have hcl:cs.length+1<1073741824:=by omega
  have d6:inR 6 1 3=false:=by decide
  cases hL:xe2 a.Chain with
  | none =>
   rw [hL] at e2
   have h1:=xnx hL
   have hM:=xjL (k:=k1) (a:=a) (z:=z) (fun q=>by rw [h1] at q;cases q.1)
   unfold xmC
   rw [hM]
   simp only [d6,Bool.false_and,Bool.not_false,Bool.and_true]
   by_cases hA:xki z s a now=1
   ·simp [-getElem?_pos,xaQ,Qil_r0,hx,hi,e1,e2,xe3,hA,hcl,xap (show i<1000000000000000000 by omega)]
   ·simp [-getElem?_pos,xaQ,Qil_r0,hx,hi,e1,e2,xe3,hA,hcl,xap (show i<1000000000000000000 by omega)]
  | some p =>
   rw [hL] at e2
   obtain ⟨h1,hfz⟩:=xoL hL
   by_cases h2:p.Zone=z
   rotate_left
   ·have hM:=xjL (k:=k1) (a:=a) (z:=z) (fun q=>h2 (by rw [hfz];exact q.2))
    unfold xmC
    rw [hM]
    simp only [d6,Bool.false_and,Bool.not_false,Bool.and_true]
    by_cases hA:xki z s a now=1
    ·simp [-getElem?_pos,xaQ,Qil_r0,hx,hi,e1,e2,xe3,h2,hA,hcl,xap (show i<1000000000000000000 by omega)]
    ·simp [-getElem?_pos,xaQ,Qil_r0,hx,hi,e1,e2,xe3,h2,hA,hcl,xap (show i<1000000000000000000 by omega)]
   have hM:=xoA (k:=k1) (a:=a) (z:=z) h1 (by rw [←hfz];exact h2)
   unfold xmC
   rw [hM]
   generalize hq:xcY k1 a.Chain=q at *
   obtain ⟨k2,m⟩:=q
   simp only at e3 e5 ⊢
   have key:(m=1∨m=2∨m=3)∧inR m 1 3=true∨(¬m=1∧¬m=2∧¬m=3)∧inR m 1 3=false:=by
    unfold inR
    by_cases q1:m=1
    ·subst q1;simp
    by_cases q2:m=2
    ·subst q2;simp
    by_cases q3:m=3
    ·subst q3;simp
    right
    simp [q1,q2,q3];omega
   by_cases hA:xki z s a now=1<;>by_cases hF:xdF k2 z=true
   all_goals try simp only [Bool.not_eq_true] at hF
   all_goals rcases key with ⟨q | q | q,hr⟩ | ⟨⟨q1,q2,q3⟩,hr⟩
   all_goals first
    | (subst q;simp [-getElem?_pos,xaQ,Qil_r0,hx,hi,e1,e2,e3,e5,e6,xe3,h2,hA,hr,hF,hcl,xd9,xel,xap (show i<1000000000000000000 by omega)];done)
    | (simp [-getElem?_pos,xaQ,Qil_r0,hx,hi,e1,e2,e3,e5,e6,xe3,h2,hA,hr,hF,q1,q2,q3,hcl,xd9,xel,xap (show i<1000000000000000000 by omega)];done)
 ·simp [Qil_r0,xd9,xaO]
  rfl) k
theorem xjZ {c:xbE} {z:Int} {s:ByteArray} (h:¬idx (isS z s) c.Lst<0):∃x,c.Lst[(idx (isS z s) c.Lst).toNat]? = some x∧xdE c z s=x.Answer∧0≤idx (isS z s) c.Lst∧(idx (isS z s) c.Lst).toNat<c.Lst.length:=by
 obtain ⟨h0,hl,x,hx⟩:=xhX h
 refine ⟨x,hx,?_,h0,hl⟩
 unfold xdE
 rw [hx]
 simp [h]
theorem xoX {c:xbE} {z:Int} {s:ByteArray} (h:idx (isS z s) c.Lst<0):xdE c z s=xni:=by
 unfold xdE
 split
 ·simp [h]
 ·rfl
theorem xgZ (c:xbE) (z:Int) (s:ByteArray) (hc:CB c) (k):call Qks [.agg (xbC c),.one (I z),.one (.str s)] k=k (xaU (xdE c z s)):=xaa (fun k=>by
 have e1:=xgK c z s hc.1
 by_cases h:idx (isS z s) c.Lst<0
 ·rw [xoX h]
  simp [Qks,e1,h,xni,xaO,xef,xpL]
  rfl
 ·obtain ⟨x,hx,hf,h0,hl⟩:=xjZ h
  rw [hf]
  have e2:=xsB x.Answer (hc.2 x (List.mem_of_getElem? hx)).2
  simp [-getElem?_pos,Qks,e1,h,hx,h0,e2]) k
theorem xgV (c:xbE) (z:Int) (s:ByteArray) (hc:CB c) (k):call Qkh [.agg (xbC c),.one (I z),.one (.str s)] k=k (xaU (xdE c z s)):=xaa (fun k=>by
 have e1:=xtD c z s hc.1
 by_cases h:idx (isS z s) c.Lst<0
 ·rw [xoX h]
  simp [Qkh,e1,h,xni,xaO,xef,xpL]
  rfl
 ·obtain ⟨x,hx,hf,h0,hl⟩:=xjZ h
  rw [hf]
  have e2:=xsM x.Answer (hc.2 x (List.mem_of_getElem? hx)).2
  simp [-getElem?_pos,Qkh,e1,h,hx,h0,e2]) k
theorem xgr (c:xbE) (z:Int) (s:ByteArray) (a:xat) (now:Int) (hc:CB c) (hs:s.size≤1048576) (ha:xaK a≤1048576) (k):call Qku [.agg (xbC c),.one (I z),.one (.str s),.agg (xaU a),.one (I now)] k=k (xbC (xjF c z s a now)):=xaa (fun k=>by
 have e0:=xei c hc
 have e1:=xtE z s a now hs ha
 have e2:=xsB a ha
 have e3:=xgK c z s hc.1
 have hl1:=hc.1
 unfold xjF
 by_cases hA:xki z s a now=1
 rotate_left
 ·simp [Qku,e0,e1,hA]
 by_cases h:idx (isS z s) c.Lst<0
 ·have h':¬0≤idx (isS z s) c.Lst:=by omega
  by_cases h6:(c.Lst.length:Int)<16
  ·simp [Qku,e0,e1,e2,e3,hA,h',h6,show c.Lst.length+1<1073741824 by omega,xbC,List.map_append]
  ·simp [Qku,e0,e1,e2,e3,hA,h',h6]
 ·obtain ⟨x,hx,hf,h0,hl⟩:=xjZ h
  simp [-getElem?_pos,Qku,e0,e1,e2,e3,hA,h0,hl,hx,over,xbC,List.map_set]) k
theorem xgc (c:xbE) (z:Int) (s:ByteArray) (a:xat) (now:Int) (hc:CB c) (hs:s.size≤1048576) (ha:xaK a≤1048576) (k):call Qkj [.agg (xbC c),.one (I z),.one (.str s),.agg (xaU a),.one (I now)] k=k (xbC (xjF c z s a now)):=xaa (fun k=>by
 have e0:=xe6 c hc
 have e1:=xtJ z s a now hs ha
 have e2:=xsM a ha
 have e3:=xtD c z s hc.1
 have hl1:=hc.1
 unfold xjF
 by_cases hA:xki z s a now=1
 rotate_left
 ·simp [Qkj,e0,e1,hA]
 by_cases h:idx (isS z s) c.Lst<0
 ·have h':¬0≤idx (isS z s) c.Lst:=by omega
  by_cases h6:(c.Lst.length:Int)<16
  ·simp [Qkj,e0,e1,e2,e3,hA,h',h6,show c.Lst.length+1<1073741824 by omega,xbC,List.map_append]
  ·simp [Qkj,e0,e1,e2,e3,hA,h',h6]
 ·obtain ⟨x,hx,hf,h0,hl⟩:=xjZ h
  simp [-getElem?_pos,Qkj,e0,e1,e2,e3,hA,h0,hl,hx,over,xbC,List.map_set]) k
def xoe (l:xpH):xaS:=if (l.Done&&l.Found)=true then l.Entry else xaO
theorem xgd (l:xpH) (h:xax l.Entry≤1048576) (k):call Qkk [.agg (xel l)] k=k (xbg (xoe l)++[.bool (l.Done&&l.Found)]):=xaa (fun k=>by
 have e:=xpD l.Entry h
 unfold xoe
 cases h1:l.Done<;>cases h2:l.Found<;>simp [Qkk,e,h1,h2,xaO]
 all_goals rfl) k
theorem xhq (l:xpH) (k):call Qkl [.agg (xel l)] k=k [.bool (l.Done&&!l.Found)]:=xaa (fun k=>by
 cases h1:l.Done<;>cases h2:l.Found<;>simp [Qkl,h1,h2]) k
abbrev xm3 (sv cv fv:PV) (chv:PV) (now:Int) (path:List ByteArray) (z code:Int) (e:xaS) (mv:Int) (zs:List Int) (k:xaJ) (c:xbE):List PV :=
 [strs path,I z,I code,.str e.Label,I e.Kind,I e.Value,I mv,I 0,.str ⟨#[]⟩,I 0,I 0,I 0,I 0,.str ⟨#[]⟩,I 0,I 0,I 0,I now,sv,cv,chv,fv,.list 23 [],.list 1 [],.list 1 [],.list 51 [],.list 1 [],.list 1 [],.list 1 [],.list 51 [],.list 1 [],ints zs,strs e.Path,chains k.Chains,.list 51 (k.Forks.map xbw),.list 23 (c.Lst.map xa4)]
theorem xrL {rows:List (List PV)} {i sz:Nat} {r:List PV} (h:rows[i]? = some r) (k:List PV→Prop):xp1 sz (.list sz rows) i k↔k r:=by
 simp [xp1,h]
theorem xlR {z:Int} {s:ByteArray} {now:Int}:∀{l:List xat} {k:xaJ} {cs:List Int} {i j:Nat} {a:xat},(xdh z s now k cs i l).2.2=some (j,a)→xki z s a now=1
 | [],k,cs,i,j,a,h=>by cases h
 | b::r,k,cs,i,j,a,h=>by
  rw [xdh] at h
  split at h
  ·rename_i hc
   cases h
   unfold xmC at hc
   split at hc
   ·cases hc
   ·exact hc
  ·exact xlR h
theorem xlr {z:Int} {s:ByteArray} {a:xat} {now:Int} (h:xki z s a now=1) (hf:a.Found=true):xcq a.Entry=true:=by
 unfold xki at h
 split at h
 ·cases h
 split at h
 ·cases h
 split at h
 ·cases h
 split at h
 ·cases h
 split at h
 ·cases h
 rename_i p _ _ _ _ hp
 unfold xet at hp
 rw [if_pos hf] at hp
 split at hp
 ·simp only [Bool.not_eq_false,Bool.and_eq_true] at hp
  have:=hp.1
  unfold xa2 at this
  simp only [Bool.and_eq_true] at this
  exact this.1
 ·cases hp rfl
theorem xjq {e:xaS} (h:xcq e=true):e.Path.length≤4∧∀s∈e.Path,s.size≤8:=by
 unfold xcq at h
 simp only [Bool.and_eq_true] at h
 have h:=h.2
 split at h
 ·simp only [Bool.and_eq_true,decide_eq_true_eq,List.length_eq_zero_iff] at h
  rw [h.2];simp
 split at h
 ·simp only [Bool.and_eq_true,decide_eq_true_eq,List.length_eq_zero_iff] at h
  rw [h.2];simp
 split at h
 ·simp only [Bool.and_eq_true] at h
  have:=xhR h.2
  exact ⟨this.le,fun s hs=>xha (this.lab s hs)⟩
 ·cases h
theorem xjA {α:Type} {f:α→Nat} {b:Nat}:∀{l:List α},(∀x∈l,f x≤b)→xbn f l≤l.length*b
 | [],_=>by simp [xbn]
 | x::l,h=>by
  have h1:=h x List.mem_cons_self
  have h2:=xjA (l:=l) fun y hy=>h y (List.mem_cons_of_mem _ hy)
  simp only [xbn,List.length_cons,Nat.add_mul,Nat.one_mul];omega
theorem xi3 {p:List ByteArray} (h1:p.length≤8) (h2:∀s∈p,s.size≤8):p.length+xbn ByteArray.size p≤1048576:=by
 have:=xjA (f:=ByteArray.size) (b:=8) h2
 omega
theorem xbX (p q:List ByteArray):strs (p++q.tail)=.list 1 (p.map rS++(q.map rS).tail):=by simp
theorem xbQ (q:List ByteArray):strs q.tail=.list 1 (q.map rS).tail:=by simp
theorem xcf (q:List ByteArray):List.take q.length (List.map rS q)=List.map rS q:=List.take_of_length_le (by simp)
theorem xbT (q:List ByteArray):xaZ (.list 1 (q.map rS).tail):=by
 intro r hr p hp
 have:=List.mem_of_mem_tail hr
 obtain ⟨x,_,rfl⟩:=List.mem_map.1 this
 simp [rS] at hp
 subst hp
 rfl
theorem xny {ask:Int→ByteArray→List xat} {now:Int} {sv cv fv chv:PV} (hask:∀z s,s.size≤1048576→∀k,call Qkt [.one sv,.one (I z),.one (.str s)] k=k [.list 21 ((ask z s).map xaU)])
 (hA:∀z s,∀a∈ask z s,xaK a≤1048576) (hL:∀z s,(ask z s).length≤4) (t:RSt) (ht:RI t) (K:List PV→Prop) {x0k} :
 Qkv_r0 (xm3 sv cv fv chv now t.path t.z 0 xaO t.mv t.zs t.k t.c) K x0k↔match xdD ask now t with
  | .inl o=>K (xm3 sv cv fv chv now [] 0 o.code o.e o.mv o.zs o.k o.c)
  | .inr t=>K (xm3 sv cv fv chv now t.path t.z 0 xaO t.mv t.zs t.k t.c):=by
 obtain ⟨s,r,hp,hf,hs,hsl⟩:=ht.p.first
 have h0:t.path[0]? = some s:=by rw [hp];rfl
 have hpl:=ht.p.le
 have hpp:=ht.p.pos
 have hzs:t.zs.length+1<1073741824:=by have:=ht.zs;omega
 have hal:=xgB hA ht
 have e1:=xgZ t.c t.z s ht.c
 have e2:=hask t.z s hs
 have hll:(xdG ask t).length≤1048576:=by have:=hL t.z (xd5 t.path);simp [xdG];omega
 have e3:∀k,call Qkc [.agg (xcb t.k),.one (.list 21 (xaU (xdE t.c t.z s)::(ask t.z s).map xaU)),.one (I t.z),.one (.str s),.one (I now)] k=k (xel (xd9 (sLk ask now t))++[I (xjO (sLk ask now t))]):=by
  have:=xjU t.k (xdG ask t) t.z s now ht.k hll hal hs
  unfold sLk
  rw [hf]
  have hu:xdG ask t=xdE t.c t.z s::ask t.z s:=by unfold xdG;rw [hf]
  rw [hu] at this ⊢
  exact this
 have hal4:1+(ask t.z s).length<1073741824:=by have:=hL t.z s;omega
 cases hl:(sLk ask now t).2.2 with
 | none =>
  have hG:xel (xd9 (sLk ask now t))++[I (xjO (sLk ask now t))]=xel ⟨(sLk ask now t).1,false,xaO,false,(sLk ask now t).2.1⟩++[I (-1)]:=by
   unfold xd9 xjO
   generalize sLk ask now t=q at hl
   obtain ⟨k1,cs,o⟩:=q
   subst hl
   rfl
  rw [hG] at e3
  have hS:xdD ask now t=.inl ⟨(sLk ask now t).1,t.c,3,xaO,t.zs++[t.z],t.mv⟩:=by
   unfold xdD sCa
   rw [hl]
  rw [hS]
  simp [-getElem?_pos,Qkv_r0,h0,e1,e2,e3,hal4,hzs,hpp,xaQ,xaO,xm3]<;>rfl
 | some ia =>
  obtain ⟨i,a⟩:=ia
  have hG:xel (xd9 (sLk ask now t))++[I (xjO (sLk ask now t))]=xel ⟨(sLk ask now t).1,a.Found,a.Entry,true,(sLk ask now t).2.1⟩++[I i]:=by
   unfold xd9 xjO
   generalize sLk ask now t=q at hl
   obtain ⟨k1,cs,o⟩:=q
   subst hl
   rfl
  rw [hG] at e3
  have hlk:(xdh t.z s now t.k [] 0 (xdE t.c t.z s::ask t.z s)).2.2=some (i,a):=by
   have:sLk ask now t=xdh t.z s now t.k [] 0 (xdE t.c t.z s::ask t.z s):=by unfold sLk xdG;rw [hf]
   rw [←this];exact hl
  have hat:=(xgm hlk).2.1
  rw [Nat.sub_zero] at hat
  have hok:=xlR hlk
  have hCa:sCa ask now t=xjF t.c t.z s a now:=by unfold sCa;rw [hl,hf]
  have hma:xaK a≤1048576:=hal a (by
   have hu:xdG ask t=xdE t.c t.z s::ask t.z s:=by unfold xdG;rw [hf]
   rw [hu];exact List.mem_of_getElem? hat)
  have e4:=xgr t.c t.z s a now ht.c hs hma
  have hrow:(xaU (xdE t.c t.z s)::(ask t.z s).map xaU)[i]? = some (xaU a):=by
   have:=congrArg (Option.map xaU) hat
   rw [←List.getElem?_map] at this
   simpa using this
  have hrow2:=xrL (sz:=21) hrow
  have hil:i<(ask t.z s).length+1:=by have:=xaL hat;simpa using this
  have e6:=xpB a.Entry (xbm hma).2.1
  have hmv:IntKind.i64.wrap (t.mv+1)=t.mv+1:=xcn (by have:=ht.mv0;omega) (by have:=ht.mv3;omega)
  have e7:=xfh a.Entry.Path (by have:=(xbm hma).2.1;unfold xax at this;omega)
  unfold xdD
  rw [hl,hCa]
  simp only
  cases hF:a.Found with
  | false =>
   rw [hF] at e3
   simp [-getElem?_pos,Qkv_r0,h0,e1,e2,e3,e4,hrow2,hil,hal4,hzs,hpp,xaQ,xaO,xm3]<;>rfl
  | true =>
   rw [hF] at e3
   have hE:=xjq (xlr hok hF)
   have e5:∀k,call Qfp [.one (.list 1 (a.Entry.Path.map rS++(t.path.map rS).tail))] k=k [.bool (xct (a.Entry.Path++t.path.tail))]:=by
    have:=xsv (a.Entry.Path++t.path.tail) (xi3 (by simp;omega) (fun x hx=>by
     rcases List.mem_append.1 hx with hx | hx
     ·exact hE.2 x hx
     ·exact xha (ht.p.lab x (List.mem_of_mem_tail hx))))
    intro k
    rw [←this k,xbX]
   have hb:a.Entry.Path.length+(t.path.length-1)<1073741824:=by omega
   by_cases hK:a.Entry.Kind=3
   ·have hKt:=eq_true hK
    by_cases h3:3≤t.mv
    ·simp [-getElem?_pos,Qkv_r0,h0,e1,e2,e3,e4,hrow2,hil,hal4,hzs,hpp,xaQ,xaO,xm3,xbX,xbQ,xcf,xbT,hb,e5,e7,hKt,h3]<;>rfl
    ·cases hP:xct (a.Entry.Path++t.path.tail) with
     | false=>simp [-getElem?_pos,Qkv_r0,h0,e1,e2,e3,e4,hrow2,hil,hal4,hzs,hpp,xaQ,xaO,xm3,xbX,xbQ,xcf,xbT,hb,e5,e7,hKt,h3,hP]<;>rfl
     | true=>simp [-getElem?_pos,Qkv_r0,h0,e1,e2,e3,e4,hrow2,hil,hal4,hzs,hpp,xaQ,xaO,xm3,xbX,xbQ,xcf,xbT,hb,e5,e7,hKt,h3,hP,hmv]<;>rfl
   ·have hKf:=eq_false hK
    by_cases hr:t.path.length=1
    ·simp [-getElem?_pos,Qkv_r0,h0,e1,e2,e3,e4,hrow2,hil,hal4,hzs,hpp,xaQ,xaO,xm3,xbX,xbQ,xcf,xbT,hb,e6,hKf,hr]<;>rfl
    ·have hr1:¬(t.path.length-1=0):=by omega
     have hr2:¬(t.path.length≤1):=by omega
     have hr3:¬(((t.path.length-1:Nat):Int)=0):=by omega
     by_cases h2:a.Entry.Kind=2
     ·have h2t:=eq_true h2
      simp [-getElem?_pos,Qkv_r0,h0,e1,e2,e3,e4,hrow2,hil,hal4,hzs,hpp,xaQ,xaO,xm3,xbX,xbQ,xcf,xbT,hb,hKf,h2t,hr1,hr2,hr3]<;>rfl
     ·have h2f:=eq_false h2
      simp [-getElem?_pos,Qkv_r0,h0,e1,e2,e3,e4,hrow2,hil,hal4,hzs,hpp,xaQ,xaO,xm3,xbX,xbQ,xcf,xbT,hb,hKf,h2f,hr1,hr2,hr3]<;>rfl
theorem xoC {R:(List PV→Prop)→List PV→Prop} {ask:Int→ByteArray→List xat} {now:Int} (V:RSt→List PV) (fin:xpz→Prop) (hA:∀z s,∀a∈ask z s,xaK a≤1048576)
 (h:∀t,RI t→∀K,R K (V t)↔match xdD ask now t with | .inl o=>fin o | .inr t'=>K (V t')):∀(n:Nat) (t:RSt),RI t→mu t<n→(lp R (V t)↔fin (xkp ask now n t))
 | 0,t,_,hn=>by omega
 | n+1,t,ht,hn=>by
  have hs:=h t ht
  rw [xkp]
  cases hq:xdD ask now t with
  | inl o =>
   exact xaE fun K=>by rw [hs K,hq]
  | inr t' =>
   obtain ⟨h1,h2,_⟩:=xlF hA ht hq
   refine (xcm fun K=>by rw [hs K,hq]).trans ?_
   exact xoC V fin hA h n t' h1 (by omega)
theorem xn4 {ask:Int→ByteArray→List xat} {now:Int} {t:RSt} {o:xpz} (h:xdD ask now t=.inl o):¬o.code=0:=by
 unfold xdD at h
 repeat' split at h
 all_goals first | (cases h;simp;done) | (cases h;done)
theorem xmM {R:(List PV→Prop)→List PV→Prop} {ask:Int→ByteArray→List xat} {now:Int} (V:RSt→List PV) (W:xpz→List PV) (fin:xpz→Prop) (hA:∀z s,∀a∈ask z s,xaK a≤1048576)
 (h:∀t,RI t→∀K,R K (V t)↔match xdD ask now t with | .inl o=>K (W o) | .inr t'=>K (V t')) (hW:∀o,¬o.code=0→∀K,R K (W o)↔fin o):∀(n:Nat) (t:RSt),RI t→mu t<n→(lp R (V t)↔fin (xkp ask now n t))
 | 0,t,_,hn=>by omega
 | n+1,t,ht,hn=>by
  have hs:=h t ht
  rw [xkp]
  cases hq:xdD ask now t with
  | inl o =>
   refine (xcm fun K=>by rw [hs K,hq]).trans ?_
   exact xaE fun K=>hW o (xn4 hq) K
  | inr t' =>
   obtain ⟨h1,h2,_⟩:=xlF hA ht hq
   refine (xcm fun K=>by rw [hs K,hq]).trans ?_
   exact xmM V W fin hA h hW n t' h1 (by omega)
def xpX (ask:Int→ByteArray→List xat) (now:Int) (k:xaJ) (c:xbE) (root:Int) (path:List ByteArray):xpz :=
 if xct path=true then xkp ask now 64 ⟨k,c,root,path,0,[]⟩ else ⟨k,c,6,xaO,[],0⟩
theorem xjB {k:xaJ} {c:xbE} {root:Int} {path:List ByteArray} (hk:KB k) (hc:CB c) (hp:xct path=true):RI ⟨k,c,root,path,0,[]⟩∧mu ⟨k,c,root,path,0,[]⟩<64:=by
 have hb:=xhR hp
 have:=hb.le
 have hm:mu ⟨k,c,root,path,0,[]⟩<64:=by unfold mu;simp;omega
 exact ⟨⟨hk,hc,hb,by simp,by simp,by simp;omega⟩,hm⟩
abbrev xs4 (o:xpz):List PV:=xcL ⟨o.k,o.code,o.e,o.zs,o.mv⟩++xbC o.c
theorem xfS {ask:Int→ByteArray→List xat} {now:Int} {sv:PV} (hask:∀z s,s.size≤1048576→∀k,call Qkt [.one sv,.one (I z),.one (.str s)] k=k [.list 21 ((ask z s).map xaU)])
 (hA:∀z s,∀a∈ask z s,xaK a≤1048576) (hL:∀z s,(ask z s).length≤4) (k0:xaJ) (c0:xbE) (root:Int) (path:List ByteArray) (hk:KB k0) (hc:CB c0) (hpa:path.length+xbn ByteArray.size path≤1048576) (k) :
 call Qkv [.agg (xcb k0),.agg (xbC c0),.one sv,.one (I root),.one (strs path),.one (I now)] k=k (xs4 (xpX ask now k0 c0 root path)):=xaa (fun k=>by
 have e1:=xei c0 hc
 have e2:=xc6 k0 hk
 have e3:=xsv path hpa
 unfold xpX
 cases hp:xct path with
 | false=>simp [Qkv,e1,e2,e3,hp,xaO]<;>rfl
 | true =>
  obtain ⟨hRI,hmu⟩:=xjB (root:=root) hk hc hp
  rw [if_pos rfl]
  simp only [Qkv,un,cur0]
  simp only [e1,e2,e3,hp,xa8,xaf,xbl,xah,Bool.not_true,Bool.false_eq_true,if_false]
  refine xmM (ask:=ask) (now:=now) (fun t=>xm3 sv (.list 23 (c0.Lst.map xa4)) (.list 51 (k0.Forks.map xbw)) (chains k0.Chains) now t.path t.z 0 xaO t.mv t.zs t.k t.c)
   (fun o=>xm3 sv (.list 23 (c0.Lst.map xa4)) (.list 51 (k0.Forks.map xbw)) (chains k0.Chains) now [] 0 o.code o.e o.mv o.zs o.k o.c) (fun o=>k (xs4 o)) hA
   (fun t ht K=>xny hask hA hL t ht K) (fun o ho K=>?_) 64 _ hRI hmu
  simp [Qkv_r0,xm3,ho]) k
abbrev xqw (sv:PV) (now:Int) (t:RSt):List PV :=
 [sv,I now,I t.z,strs t.path,.list 23 (t.c.Lst.map xa4),chains t.k.Chains,.list 51 (t.k.Forks.map xbw),I 6,.str ⟨#[]⟩,I 0,I 0,.list 1 [],I t.mv,.list 1 [],.list 51 [],I 0,.str ⟨#[]⟩,I 0,I 0,.list 1 [],I 0,.list 23 [],.list 1 [],ints t.zs]
theorem xee {rows:List (List PV)} {i sz:Nat} {r:List PV} (h:rows[i]? = some r) (k:List PV→Prop):xaj sz (.list sz rows) (I (i:Int)) k↔k r:=by
 simp [xaj,h]
theorem xtC (k1:xaJ) (e:xaS) (f d:Bool) (cs:List Int) (h:xax e≤1048576) (k):call Qkk [.agg [chains k1.Chains,.list 51 (k1.Forks.map xbw),.bool f,.str e.Label,I e.Kind,I e.Value,strs e.Path,.bool d,ints cs]] k=k (xbg (xoe ⟨k1,f,e,d,cs⟩)++[.bool (d&&f)]):=xgd ⟨k1,f,e,d,cs⟩ h k
theorem xtB (k1:xaJ) (e:xaS) (f d:Bool) (cs:List Int) (k):call Qkl [.agg [chains k1.Chains,.list 51 (k1.Forks.map xbw),.bool f,.str e.Label,I e.Kind,I e.Value,strs e.Path,.bool d,ints cs]] k=k [.bool (d&&!f)]:=xhq ⟨k1,f,e,d,cs⟩ k
theorem xfH {ask:Int→ByteArray→List xat} {now:Int} {sv:PV} (hask:∀z s,s.size≤1048576→∀k,call Qki [.one sv,.one (I z),.one (.str s)] k=k [.list 21 ((ask z s).map xaU)])
 (hA:∀z s,∀a∈ask z s,xaK a≤1048576) (hL:∀z s,(ask z s).length≤4) (k0:xaJ) (c0:xbE) (root:Int) (path:List ByteArray) (hk:KB k0) (hc:CB c0) (hpa:path.length+xbn ByteArray.size path≤1048576) (k) :
 call Qkm [.agg (xcb k0),.agg (xbC c0),.one sv,.one (I root),.one (strs path),.one (I now)] k=k (xs4 (xpX ask now k0 c0 root path)):=xaa (fun k=>by
 have q1:=xe6 c0 hc
 have q2:=xdA k0 hk
 have q3:=xsF path hpa
 have q4:=xsO path (by omega)
 unfold xpX
 cases hp:xct path with
 | false=>simp [Qkm,q1,q2,q3,hp,xaO]<;>rfl
 | true =>
  obtain ⟨hRI,hmu⟩:=xjB (root:=root) hk hc hp
  rw [if_pos rfl]
  simp only [Qkm,un,cur0]
  simp only [q1,q2,q3,q4,hp,xa8,xaf,xbl,xah,Bool.not_true,Bool.false_eq_true,if_false]
  refine xoC (ask:=ask) (now:=now) (xqw sv now) (fun o=>k (xs4 o)) hA (fun t ht K=>?_) 64 _ hRI hmu
  clear q1 q2 q3 q4 hRI hmu hpa
  obtain ⟨s,r,hp,hf,hs,hsl⟩:=ht.p.first
  have h0:t.path[0]? = some s:=by rw [hp];rfl
  have hpl:=ht.p.le
  have hpp:=ht.p.pos
  have hzs:t.zs.length+1<1073741824:=by have:=ht.zs;omega
  have hal:=xgB hA ht
  have e1:=xgV t.c t.z s ht.c
  have e2:=hask t.z s hs
  have hll:(xdG ask t).length≤1048576:=by have:=hL t.z (xd5 t.path);simp [xdG];omega
  have e3:∀k,call Qil [.agg (xcb t.k),.one (.list 21 (xaU (xdE t.c t.z s)::(ask t.z s).map xaU)),.one (I t.z),.one (.str s),.one (I now)] k=k (xel (xd9 (sLk ask now t))):=by
   have:=xjC t.k (xdG ask t) t.z s now ht.k hll hal hs
   unfold sLk
   rw [hf]
   have hu:xdG ask t=xdE t.c t.z s::ask t.z s:=by unfold xdG;rw [hf]
   rw [hu] at this ⊢
   exact this
  have hal4:1+(ask t.z s).length<1073741824:=by have:=hL t.z s;omega
  cases hl:(sLk ask now t).2.2 with
  | none =>
   have hG:xel (xd9 (sLk ask now t))=xel ⟨(sLk ask now t).1,false,xaO,false,(sLk ask now t).2.1⟩:=by
    unfold xd9
    generalize sLk ask now t=q at hl
    obtain ⟨k1,cs,o⟩:=q
    subst hl
    rfl
   rw [hG] at e3
   have hS:xdD ask now t=.inl ⟨(sLk ask now t).1,t.c,3,xaO,t.zs++[t.z],t.mv⟩:=by
    unfold xdD sCa
    rw [hl]
   rw [hS]
   have e8:∀k,call Qkk [.agg [chains (sLk ask now t).1.Chains,.list 51 ((sLk ask now t).1.Forks.map xbw),.bool false,.str ⟨#[]⟩,I 0,I 0,strs [],.bool false,ints (sLk ask now t).2.1]] k=k [.str ⟨#[]⟩,I 0,I 0,strs [],.bool false]:=xtC (sLk ask now t).1 xaO false false (sLk ask now t).2.1 (by decide)
   have e9:∀k,call Qkl [.agg [chains (sLk ask now t).1.Chains,.list 51 ((sLk ask now t).1.Forks.map xbw),.bool false,.str ⟨#[]⟩,I 0,I 0,strs [],.bool false,ints (sLk ask now t).2.1]] k=k [.bool false]:=xtB (sLk ask now t).1 xaO false false (sLk ask now t).2.1
   simp [-getElem?_pos,Qkm_r0,xqw,h0,e1,e2,e3,hal4,hzs,hpp,xaQ,e8,e9,xoe,xcL,xbC,xaO]<;>rfl
  | some ia =>
   obtain ⟨i,a⟩:=ia
   have hG:xel (xd9 (sLk ask now t))=xel ⟨(sLk ask now t).1,a.Found,a.Entry,true,(sLk ask now t).2.1⟩:=by
    unfold xd9
    generalize sLk ask now t=q at hl
    obtain ⟨k1,cs,o⟩:=q
    subst hl
    rfl
   rw [hG] at e3
   have hLe:sLk ask now t=xdh t.z s now t.k [] 0 (xdE t.c t.z s::ask t.z s):=by unfold sLk xdG;rw [hf]
   have hlk:(xdh t.z s now t.k [] 0 (xdE t.c t.z s::ask t.z s)).2.2=some (i,a):=by rw [←hLe];exact hl
   have hat3:=(xgm hlk).2.2
   rw [←hLe] at hat3
   have hat:=(xgm hlk).2.1
   rw [Nat.sub_zero] at hat
   have hok:=xlR hlk
   have hCa:sCa ask now t=xjF t.c t.z s a now:=by unfold sCa;rw [hl,hf]
   have hma:xaK a≤1048576:=hal a (by
    have hu:xdG ask t=xdE t.c t.z s::ask t.z s:=by unfold xdG;rw [hf]
    rw [hu];exact List.mem_of_getElem? hat)
   have e4:=xgc t.c t.z s a now ht.c hs hma
   have hrow:(xaU (xdE t.c t.z s)::(ask t.z s).map xaU)[i]? = some (xaU a):=by
    have:=congrArg (Option.map xaU) hat
    rw [←List.getElem?_map] at this
    simpa using this
   have hil:i<(ask t.z s).length+1:=by have:=xaL hat;simpa using this
   have hix:IntKind.i64.wrap (((sLk ask now t).2.1.length:Int)-1)=(i:Int):=by
    have h4:=hL t.z s
    rw [hat3]
    simp only [List.length_nil,Nat.zero_add,Nat.sub_zero]
    rw [show (((i+1:Nat):Int)-1)=(i:Int) by omega]
    exact xcn (by omega) (by omega)
   have hmv:IntKind.i64.wrap (t.mv+1)=t.mv+1:=xcn (by have:=ht.mv0;omega) (by have:=ht.mv3;omega)
   have e7:=xsO a.Entry.Path (by have:=(xbm hma).2.1;unfold xax at this;omega)
   have e8:=xtC (sLk ask now t).1 a.Entry a.Found true (sLk ask now t).2.1 (xbm hma).2.1
   have e9:=xtB (sLk ask now t).1 a.Entry a.Found true (sLk ask now t).2.1
   unfold xdD
   rw [hl,hCa]
   simp only
   cases hF:a.Found with
   | false =>
    rw [hF] at e3 e8 e9
    have hb:True:=trivial
    simp [-getElem?_pos,Qkm_r0,h0,e1,e2,e3,e4,e8,e9,xee hrow,hix,hil,hal4,hzs,hpp,xaQ,xaO,xqw,xbX,xbQ,xcf,xbT,hb,xcL,xbC,xoe]<;>rfl
   | true =>
    rw [hF] at e3 e8 e9
    have hE:=xjq (xlr hok hF)
    have e5:∀k,call Qcq [.one (.list 1 (a.Entry.Path.map rS++(t.path.map rS).tail))] k=k [.bool (xct (a.Entry.Path++t.path.tail))]:=by
     have:=xsF (a.Entry.Path++t.path.tail) (xi3 (by simp;omega) (fun x hx=>by
      rcases List.mem_append.1 hx with hx | hx
      ·exact hE.2 x hx
      ·exact xha (ht.p.lab x (List.mem_of_mem_tail hx))))
     intro k
     rw [←this k,xbX]
    have hb:a.Entry.Path.length+(t.path.length-1)<1073741824:=by omega
    by_cases hK:a.Entry.Kind=3
    ·have hKt:=eq_true hK
     by_cases h3:3≤t.mv
     ·simp [-getElem?_pos,Qkm_r0,h0,e1,e2,e3,e4,e8,e9,xee hrow,hix,hil,hal4,hzs,hpp,xaQ,xaO,xqw,xbX,xbQ,xcf,xbT,hb,xcL,xbC,xoe,e5,e7,hKt,h3]<;>rfl
     ·cases hP:xct (a.Entry.Path++t.path.tail) with
      | false=>simp [-getElem?_pos,Qkm_r0,h0,e1,e2,e3,e4,e8,e9,xee hrow,hix,hil,hal4,hzs,hpp,xaQ,xaO,xqw,xbX,xbQ,xcf,xbT,hb,xcL,xbC,xoe,e5,e7,hKt,h3,hP]<;>rfl
      | true=>simp [-getElem?_pos,Qkm_r0,h0,e1,e2,e3,e4,e8,e9,xee hrow,hix,hil,hal4,hzs,hpp,xaQ,xaO,xqw,xbX,xbQ,xcf,xbT,hb,xcL,xbC,xoe,e5,e7,hKt,h3,hP,hmv]<;>rfl
    ·have hKf:=eq_false hK
     by_cases hr:t.path.length=1
     ·simp [-getElem?_pos,Qkm_r0,h0,e1,e2,e3,e4,e8,e9,xee hrow,hix,hil,hal4,hzs,hpp,xaQ,xaO,xqw,xbX,xbQ,xcf,xbT,hb,xcL,xbC,xoe,hKf,hr]<;>rfl
     ·have hr1:¬(t.path.length-1=0):=by omega
      have hr2:¬(t.path.length≤1):=by omega
      have hr3:¬((t.path.length:Int)=1):=by omega
      by_cases h2:a.Entry.Kind=2
      ·have h2t:=eq_true h2
       simp [-getElem?_pos,Qkm_r0,h0,e1,e2,e3,e4,e8,e9,xee hrow,hix,hil,hal4,hzs,hpp,xaQ,xaO,xqw,xbX,xbQ,xcf,xbT,hb,xcL,xbC,xoe,hKf,h2t,hr,hr1,hr2,hr3]<;>rfl
      ·have h2f:=eq_false h2
       simp [-getElem?_pos,Qkm_r0,h0,e1,e2,e3,e4,e8,e9,xee hrow,hix,hil,hal4,hzs,hpp,xaQ,xaO,xqw,xbX,xbQ,xcf,xbT,hb,xcL,xbC,xoe,hKf,h2f,hr,hr1,hr2,hr3]<;>rfl) k
def ask0:Int→ByteArray→List xat:=fun _ _=>[]
theorem xhW (z:Int) (s:ByteArray) (hs:s.size≤1048576) (k):call Qkt [.one (.list 2 []),.one (I z),.one (.str s)] k=k [.list 21 ((ask0 z s).map xaU)]:=xaa (fun k=>by
 simp [Qkt,ask0]
 exact xaE fun K=>by simp [Qkt_r0]) k
theorem xhs (z:Int) (s:ByteArray) (hs:s.size≤1048576) (k):call Qki [.one (.list 2 []),.one (I z),.one (.str s)] k=k [.list 21 ((ask0 z s).map xaU)]:=xaa (fun k=>by
 simp [Qki,ask0]
 exact xaE fun K=>by simp [Qki_r0]) k
theorem xmh:∀z s,∀a∈ask0 z s,xaK a≤1048576:=by intro z s a ha;cases ha
theorem xnb:∀z s,(ask0 z s).length≤4:=by intro z s;simp [ask0]
def zKn:xaJ:=⟨[],[]⟩
theorem xnZ:KB zKn:=⟨by simp [zKn],(by intro c hc;cases hc),by simp [zKn],(by intro f hf;cases hf)⟩
def xtc (c:xbE) (root:Int) (path:List ByteArray) (now:Int):xjx:=let o:=xpX ask0 now zKn c root path;⟨o.k,o.code,o.e,o.zs,o.mv⟩
theorem xeD (c:xbE) (root:Int) (path:List ByteArray) (now:Int) (hc:CB c) (hpa:path.length+xbn ByteArray.size path≤1048576) (k):call Qkw [.agg [.list 1 [],.list 51 []],.agg (xbC c),.one (I root),.one (strs path),.one (I now)] k=k (xcL (xtc c root path now)):=xaa (fun k=>by
 have e:∀k,call Qkv [.agg [.list 1 [],.list 51 []],.agg (xbC c),.one (.list 2 []),.one (I root),.one (strs path),.one (I now)] k=k (xs4 (xpX ask0 now zKn c root path)):=xfS xhW xmh xnb zKn c root path xnZ hc hpa
 simp [Qkw,e,xtc,xcL]) k
theorem xeq (c:xbE) (root:Int) (path:List ByteArray) (now:Int) (hc:CB c) (hpa:path.length+xbn ByteArray.size path≤1048576) (k):call Qkn [.agg [.list 1 [],.list 51 []],.agg (xbC c),.one (I root),.one (strs path),.one (I now)] k=k (xcL (xtc c root path now)):=xaa (fun k=>by
 have e:∀k,call Qkm [.agg [.list 1 [],.list 51 []],.agg (xbC c),.one (.list 2 []),.one (I root),.one (strs path),.one (I now)] k=k (xs4 (xpX ask0 now zKn c root path)):=xfH xhs xmh xnb zKn c root path xnZ hc hpa
 simp [Qkn,e,xtc,xcL]) k
def xlI (b:xcU) (now:Int):xjx:=if (16:Int)<b.Steps.length then ⟨zKn,6,xaO,[],0⟩ else xtc ⟨b.Steps⟩ b.Root b.Path now
theorem xmg {b:xcU} (h:xb9 b≤1048576):CB ⟨b.Steps⟩∧b.Path.length+xbn ByteArray.size b.Path≤1048576:=by
 unfold xb9 at h
 have hs:xcg b.Steps=b.Steps.length+xbn xbq b.Steps:=rfl
 refine ⟨⟨by simp only;omega,fun s hm=>?_⟩,by omega⟩
 have h1:xbq s≤xbn xbq b.Steps:=xbO hm
 have h2:xbq s=s.Label.size+xaK s.Answer:=rfl
 exact ⟨by omega,by omega⟩
theorem xfT (b:xcU) (now:Int) (h:xb9 b≤1048576) (k):call Qkx [.agg (xc7 b),.one (I now)] k=k (xcL (xlI b now)):=xaa (fun k=>by
 obtain ⟨h1,h2⟩:=xmg h
 have e:=xeD ⟨b.Steps⟩ b.Root b.Path now h1 h2
 unfold xlI
 by_cases c:(16:Int)<b.Steps.length
 ·simp [Qkx,c,zKn,xaO]<;>rfl
 ·simp [Qkx,c,e]) k
theorem xfI (b:xcU) (now:Int) (h:xb9 b≤1048576) (k):call Qko [.agg (xc7 b),.one (I now)] k=k (xcL (xlI b now)):=xaa (fun k=>by
 obtain ⟨h1,h2⟩:=xmg h
 have e:=xeq ⟨b.Steps⟩ b.Root b.Path now h1 h2
 unfold xlI
 by_cases c:(16:Int)<b.Steps.length
 ·simp [Qko,c,zKn,xaO]<;>rfl
 ·simp [Qko,c,e]) k
theorem xwu {m:PV→Int→Option (PV×Int)} {p p':PV} {k k':Int} (h:m p k=some (p',k')) (hk:rg64 k=true) (K):call (gS m) [.one p,.one (I k)] K=K [p',I k']:=xaa (fun K=>by
 simp only [gS,hk,true_and,h]) K
theorem xri {m:List PV→Int→Option (List PV×Int)} {ps ps':List PV} {k k':Int} (h:m ps k=some (ps',k')) (hk:rg64 k=true) (K):call (gT m) [.agg ps,.one (I k)] K=K (ps'++[I k']):=xaa (fun K=>by
 simp only [gT,hk,true_and,h]) K
def K8 (k:xaJ):Prop:=k.Chains.length≤8∧k.Forks.length≤8
theorem xq1 {k:xaJ} {c:List xag} (h:K8 k):K8 (xcY k c).1:=by
 obtain ⟨h1,h2⟩:=h
 unfold xcY
 split
 ·split
  ·exact ⟨h1,h2⟩
  ·exact ⟨by simp;omega,h2⟩
 split
 ·exact ⟨by simpa using h1,h2⟩
 split
 ·split
  ·split
   ·exact ⟨h1,by simp;omega⟩
   ·exact ⟨h1,h2⟩
  ·exact ⟨h1,h2⟩
 ·exact ⟨h1,h2⟩
theorem xrq {k:xaJ} {a:xat} {z:Int} (h:K8 k):K8 (xmA k a z).1:=by
 unfold xmA
 split
 ·exact xq1 h
 ·exact h
theorem xlT {z:Int} {s:ByteArray} {now:Int}:∀{l:List xat} {k:xaJ} {cs:List Int} {i:Nat},K8 k→K8 (xdh z s now k cs i l).1
 | [],k,cs,i,hk=>hk
 | a::r,k,cs,i,hk=>by
  rw [xdh]
  split
  ·exact xrq hk
  ·exact xlT (xrq hk)
structure xup (o:xpz):Prop where
 kb:KB o.k
 k8:K8 o.k
 e:xax o.e≤1048576
 zs:o.zs.length≤1001
theorem xrz {ask:Int→ByteArray→List xat} {now:Int} {t:RSt} {o:xpz} (hA:∀z s,∀a∈ask z s,xaK a≤1048576) (h:RI t) (h8:K8 t.k) (hs:xdD ask now t=.inl o):xup o:=by
 have hk:KB (sLk ask now t).1:=xlS h.k (xgB hA h)
 have hk8:K8 (sLk ask now t).1:=xlT h8
 have hz:=h.zs
 have he:xax xaO≤1048576:=by decide
 have hzs:(t.zs++[t.z]).length≤1001:=by simp;omega
 unfold xdD at hs
 split at hs
 ·cases hs;exact ⟨hk,hk8,he,hzs⟩
 rename_i i a hl
 have ha:=xgB hA h a (List.mem_of_getElem? (xgm (show (xdh t.z (xd5 t.path) now t.k [] 0 (xdG ask t)).2.2=some (i,a) from hl)).2.1)
 split at hs
 ·cases hs;exact ⟨hk,hk8,he,hzs⟩
 split at hs
 ·split at hs
  ·cases hs;exact ⟨hk,hk8,he,hzs⟩
  ·cases hs
 split at hs
 ·cases hs;exact ⟨hk,hk8,(xbm ha).2.1,hzs⟩
 split at hs
 ·cases hs
 ·cases hs;exact ⟨hk,hk8,he,hzs⟩
theorem xrA {ask:Int→ByteArray→List xat} {now:Int} {t t':RSt} (h8:K8 t.k) (hs:xdD ask now t=.inr t'):K8 t'.k:=by
 have hk8:K8 (sLk ask now t).1:=xlT h8
 unfold xdD at hs
 repeat' split at hs
 all_goals first | (cases hs;done) | (cases hs;exact hk8)
theorem xn1 {ask:Int→ByteArray→List xat} {now:Int} (hA:∀z s,∀a∈ask z s,xaK a≤1048576):∀(n:Nat) (t:RSt),RI t→K8 t.k→mu t<n→xup (xkp ask now n t)
 | 0,t,_,_,hn=>by omega
 | n+1,t,ht,h8,hn=>by
  rw [xkp]
  cases hq:xdD ask now t with
  | inl o=>exact xrz hA ht h8 hq
  | inr t' =>
   obtain ⟨h1,h2,_⟩:=xlF hA ht hq
   exact xn1 hA n t' h1 (xrA h8 hq) (by omega)
theorem xte {ask:Int→ByteArray→List xat} {now:Int} (hA:∀z s,∀a∈ask z s,xaK a≤1048576) {k:xaJ} {c:xbE} {root:Int} {path:List ByteArray} (hk:KB k) (h8:K8 k) (hc:CB c):xup (xpX ask now k c root path):=by
 unfold xpX
 split
 ·rename_i hp
  obtain ⟨h1,h2⟩:=xjB (root:=root) hk hc hp
  exact xn1 hA 64 _ h1 h8 h2
 ·exact ⟨hk,h8,show xax xaO≤1048576 by decide,by simp⟩
theorem mK8 {k:xaJ} (hk:KB k) (h8:K8 k):xfP k≤40000000:=by
 obtain ⟨_,h1,_,h2⟩:=hk
 have a1:=xjA (f:=xaq) (b:=1048576) h1
 have a2:=xjA (f:=xfr) (b:=3145728) (fun f hf=>by have:=h2 f hf;unfold FB at this;have e:xfr f=xau f.Before+(xau f.A+xau f.B):=rfl;omega)
 have e1:xc1 k.Chains=k.Chains.length+xbn xaq k.Chains:=rfl
 have e2:xgJ k.Forks=k.Forks.length+xbn xfr k.Forks:=rfl
 have b1:=h8.1
 have b2:=h8.2
 have c1:k.Chains.length*1048576≤8*1048576:=Nat.mul_le_mul_right _ b1
 have c2:k.Forks.length*3145728≤8*3145728:=Nat.mul_le_mul_right _ b2
 have:xfP k=xc1 k.Chains+xgJ k.Forks:=rfl
 omega
theorem mTr {o:xpz} (h:xup o):xgH ⟨o.k,o.code,o.e,o.zs,o.mv⟩≤100000000:=by
 have a:=mK8 h.kb h.k8
 have b:=h.e
 have c:=h.zs
 have:xgH ⟨o.k,o.code,o.e,o.zs,o.mv⟩=xfP o.k+(xax o.e+o.zs.length):=rfl
 omega
theorem xwC {b:xcU} (h:xb9 b≤1048576) (now:Int):xgH (xlI b now)≤100000000:=by
 unfold xlI
 split
 ·decide
 ·exact mTr (xte (now:=now) (root:=b.Root) (path:=b.Path) xmh xnZ ⟨by simp [zKn],by simp [zKn]⟩ (xmg h).1)
theorem xfR (l:List Int) (h:l.length≤100000000) (k):call Qgj [.one (ints l),.one (ints l)] k=k [.bool true]:=xaa (fun k=>by
 have hm:=h
 simp [Qgj]
 refine xez l rI 1 (.bool false) rfl (fun i x hx hi K=>?_) fun K=>?_
 ·simp [-getElem?_pos,Qgj_r0,hx,hi,xap (show i<1000000000000000000 by omega)]
 ·simp [Qgj_r0]) k
theorem xgX (l:List ByteArray) (h:(l.length+xbn ByteArray.size l)≤100000000) (k):call Qgq [.one (strs l),.one (strs l)] k=k [.bool true]:=xaa (fun k=>by
 have hm:=h
 simp [Qgq]
 refine xez l rS 1 (.bool false) rfl (fun i x hx hi K=>?_) fun K=>?_
 ·simp [-getElem?_pos,Qgq_r0,hx,hi,xap (show i<1000000000000000000 by omega)]
 ·simp [Qgq_r0]) k
theorem xea (a:xbV) (h:xbf a≤100000000) (k):call Qgk [.agg (xcM a),.agg (xcM a)] k=k [.bool true]:=xaa (fun k=>by
 unfold xbf at h
 simp [Qgk,xfR a.Lst (by omega)]) k
theorem xiG (a:xaS) (h:xax a≤100000000) (k):call Qgr [.agg (xbg a),.agg (xbg a)] k=k [.bool true]:=xaa (fun k=>by
 unfold xax at h
 simp [Qgr,xgX a.Path (by omega)]) k
theorem xjQ (a:xa7) (h:xbu a≤100000000) (k):call Qgl [.agg (xbo a),.agg (xbo a)] k=k [.bool true]:=xaa (fun k=>by
 unfold xbu at h
 simp [Qgl,xea a.Keys (by omega),xea a.Heirs (by omega),xea a.Judge (by omega)]) k
theorem xjP (l:List xfD) (h:l.length≤100000000) (k):call Qgn [.one (.list 2 (l.map xck)),.one (.list 2 (l.map xck))] k=k [.bool true]:=xaa (fun k=>by
 have hm:=h
 simp [Qgn]
 refine xez l xck 2 (.bool false) rfl (fun i x hx hi K=>?_) fun K=>?_
 ·simp [-getElem?_pos,Qgn_r0,hx,hi,xtL x,xap (show i<1000000000000000000 by omega)]
 ·simp [Qgn_r0]) k
theorem xcJ (a:xag) (h:xau a≤100000000) (k):call Qgo [.agg (xal a),.agg (xal a)] k=k [.bool true]:=xaa (fun k=>by
 unfold xau at h
 simp [Qgo,xjQ a.Head (by omega),xjP a.Sigs (by omega)]) k
theorem xjR (a:xcT) (h:xfr a≤100000000) (k):call Qgt [.agg (xbw a),.agg (xbw a)] k=k [.bool true]:=xaa (fun k=>by
 unfold xfr at h
 simp [Qgt,xcJ a.Before (by omega),xcJ a.A (by omega),xcJ a.B (by omega)]) k
theorem xgY (l:List xag) (h:xaq l≤100000000) (k):call Qgp [.one (.list 17 (l.map xal)),.one (.list 17 (l.map xal))] k=k [.bool true]:=xaa (fun k=>by
 have hm:=h
 unfold xaq at hm
 simp [Qgp]
 refine xez l xal 17 (.bool false) rfl (fun i x hx hi K=>?_) fun K=>?_
 ·have hs:xau x≤xbn xau l:=xbO (s:=xau) (List.mem_of_getElem? hx)
  simp [-getElem?_pos,Qgp_r0,hx,hi,xcJ x (by omega),xap (show i<1000000000000000000 by omega)]
 ·simp [Qgp_r0]) k
theorem xgo (l:List (List xag)) (h:xc1 l≤100000000) (k):call Qgs [.one (.list 1 (l.map (fun l:List xag=>[.list 17 (l.map xal)]))),.one (.list 1 (l.map (fun l:List xag=>[.list 17 (l.map xal)])))] k=k [.bool true]:=xaa (fun k=>by
 have hm:=h
 unfold xc1 at hm
 simp [Qgs]
 refine xez l (fun l:List xag=>[.list 17 (l.map xal)]) 1 (.bool false) rfl (fun i x hx hi K=>?_) fun K=>?_
 ·have hs:xaq x≤xbn xaq l:=xbO (s:=xaq) (List.mem_of_getElem? hx)
  simp [-getElem?_pos,Qgs_r0,hx,hi,xgY x (by omega),xap (show i<1000000000000000000 by omega)]
 ·simp [Qgs_r0]) k
theorem xiF (l:List xcT) (h:xgJ l≤100000000) (k):call Qgu [.one (.list 51 (l.map xbw)),.one (.list 51 (l.map xbw))] k=k [.bool true]:=xaa (fun k=>by
 have hm:=h
 unfold xgJ at hm
 simp [Qgu]
 refine xez l xbw 51 (.bool false) rfl (fun i x hx hi K=>?_) fun K=>?_
 ·have hs:xfr x≤xbn xfr l:=xbO (s:=xfr) (List.mem_of_getElem? hx)
  simp [-getElem?_pos,Qgu_r0,hx,hi,xjR x (by omega),xap (show i<1000000000000000000 by omega)]
 ·simp [Qgu_r0]) k
theorem xiE (a:xaJ) (h:xfP a≤100000000) (k):call Qgv [.agg (xcb a),.agg (xcb a)] k=k [.bool true]:=xaa (fun k=>by
 unfold xfP at h
 simp [Qgv,xgo a.Chains (by omega),xiF a.Forks (by omega)]) k
theorem xiD (a:xjx) (h:xgH a≤100000000) (k):call Qky [.agg (xcL a),.agg (xcL a)] k=k [.bool true]:=xaa (fun k=>by
 unfold xgH at h
 simp [Qky,xiE a.Known (by omega),xiG a.Entry (by omega),xfR a.Zones (by omega)]) k
theorem laws_FnExactCheckBundle_law (pvss:List (List PV)) (h:xc8 [[.int .i64,.list [.str],.list [.int .i64,.str,.list [.int .i64,.int .i64,.int .i64,.int .i64,.int .i64,.int .i64,.int .i64,.int .i64,.list [.int .i64],.int .i64,.list [.int .i64],.int .i64,.int .i64,.list [.int .i64],.int .i64,.bool,.list [.int .i64,.int .i64]],.bool,.str,.int .i64,.int .i64,.list [.str],.int .i64,.list [.int .i64],.int .i64,.str,.int .i64,.int .i64,.list [.str],.str,.int .i64,.int .i64,.list [.str],.int .i64,.list [.int .i64],.int .i64,.list [.int .i64]]],[.int .i64]] pvss):laws_FnExactCheckBundle (xiM Tryz.prog Tryz.f8.params.toList pvss) (fun o=>o=[PV.bool true]):=by
 obtain ⟨p0,r0,rfl,h0,hq0⟩:=xla h
 obtain ⟨p1,r1,rfl,h1,hq1⟩:=xla hq0
 rw [xqx hq1]
 obtain ⟨x0,rfl,w0⟩:=xpa _ h0
 obtain ⟨q1,rfl,g1⟩:=xfC h1
 obtain ⟨now,rfl⟩:=xbj g1
 rw [show xiM Tryz.prog Tryz.f8.params.toList [xc7 x0,[I now]]=[.agg (xc7 x0),.one (I now)] by kernel_rfl]
 have t1:=xuT x0 1048576 w0 (by omega) (by omega)
 by_cases c0:((xb9 x0:Nat):Int)≤1048576
 rotate_left
 ·simp only [laws_FnExactCheckBundle,un,cur0,t1,xaw c0,xan,xah,xaf,xbl,show ((-1:Int)<0) by omega,decide_true,if_true,xav,xam,xai,xar,true_and]
 have s0:xb9 x0≤1048576:=by omega
 have q1:=xuS x0 s0
 have q2:=xuR x0 s0
 obtain ⟨c_1,c_2,kx,e1,b1,b2,_⟩:=xkE x0 1 (by omega) (by omega)
 have mx:∀K,call laws_markBundle [.agg (xc7 x0),.one (I 1)] K=K [I x0.Root,c_1,c_2,I kx]:=xri e1 (by decide)
 have n1:¬(kx<0):=by omega
 have sp:=xfI x0 now s0
 have im:=xfT x0 now s0
 have hA:=xwC s0 now
 generalize xlI x0 now=A at *
 have q5:=xiD A (by omega)
 obtain ⟨a_1,a_2,a_3,a_4,kA,e3,b5,b6,hh⟩:=xlN A 1 (by omega) (by omega)
 have mA:∀K,call laws_markTrace [.agg (xcL A),.one (I 1)] K=K [a_1,a_2,I A.Code,.str A.Entry.Label,I A.Entry.Kind,I A.Entry.Value,a_3,a_4,I A.Moves,I kA]:=xri e3 (by decide)
 have n2:¬(kA<0):=by omega
 have n0:¬(1048576-((xb9 x0:Nat):Int)<0):=by omega
 simp only [laws_FnExactCheckBundle,un,cur0,t1,xbe c0,n0,q1,q2,q5,sp,im,xaf,xbl,xa8,Bool.not_true,xah,Bool.false_eq_true,if_false,xnC,xl8,xkW,xao,xar,xmU,true_and,mx,xan,n1,n2,decide_false,mA,hh,xbM,bne_self_eq_false,xav,xam,xai,and_true,and_self]
end Go.Ev
