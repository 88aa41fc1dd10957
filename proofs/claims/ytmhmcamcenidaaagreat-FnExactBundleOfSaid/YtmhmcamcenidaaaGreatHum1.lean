/- What each function hands back, and that the law answers true, part 1. -/
import Derived.Test.YtmhmcamcenidaaaGreatFn4
set_option linter.unusedVariables false
set_option linter.unusedSimpArgs false
set_option maxHeartbeats 1000000
set_option maxRecDepth 10000
namespace Go.Ev
open Go.Proofs
theorem xdP {s t:Nat} {left:Int} (h:(s:Int)≤left):szr (s+t) left=szr t (left-s):=by
 unfold szr
 by_cases h1:(t:Int)≤left-s
 ·rw [if_pos h1,if_pos (by omega)];omega
 ·rw [if_neg h1,if_neg (by omega)]
theorem xb4 {s t:Nat} {left:Int} (h:¬(s:Int)≤left):szr (s+t) left=-1:=by unfold szr;rw [if_neg (by omega)]
theorem xaO {s:Nat} {left:Int} (h:¬(s:Int)≤left):szr s left=-1:=by unfold szr;rw [if_neg h]
theorem xbw {s:Nat} {left:Int} (h:(s:Int)≤left):szr s left=left-s:=by unfold szr;rw [if_pos h]
theorem xbn {α:Type} {s:α→Nat} {x:α}:∀{l:List α},x∈l→s x≤xbl s l
 | y::l,h=>by
  rw [show xbl s (y::l)=s y+xbl s l from rfl]
  rcases List.mem_cons.1 h with rfl | h
  ·omega
  ·have:=xbn (s:=s) h;omega
theorem xnk {p:PV} (hp:Sh.has (.list [.str]) p):∃l:List ByteArray,p=strs l∧(l.length≤maxLen∧∀y∈l,y.size≤maxLen):=by
 obtain ⟨l,h1,h2,h3⟩:=xfM (enc:=rS) (wf:=fun y=>y.size≤maxLen) (fun r hr=>by
  obtain ⟨p,rfl,h⟩:=xdz hr
  obtain ⟨n,rfl,g⟩:=xpw h
  exact ⟨n,rfl,g⟩) 1 rfl hp
 exact ⟨l,h1,h2,h3⟩
theorem xxm (l:List Int) (left:Int) (hw:l.length≤maxLen) (h2:0≤left) (h3:left≤1048576) (k):call Qab [.one (ints l),.one (I left)] k=k [I (szr l.length left)]:=xaa (fun k=>by
 simp only [Qab,xaA,List.length_map,xbB,xen hw h2 h3,xaq,xah,xaw,xao,xai,xas,true_and,and_true]
 by_cases c:(l.length:Int)≤left
 ·simp [xbw c,show ¬(left-(l.length:Int)<0) by omega]
 ·simp [xaO c,show left-(l.length:Int)<0 by omega]) k
theorem xxb (l:List Int) (h:l.length≤1048576) (k):call Qao [.one (ints l)] k=k [ints l]:=xaa (fun k=>by
 have hm:=h
 simp [Qao,show l.length<1073741824 by omega]
 refine xh6 l rI rI [I 0] 1 1 (.list 1 []) rfl (fun i x hx hi K rows hr hz=>?_) fun K=>?_
 ·simp [-getElem?_pos,Qao_r0,hx,hi,hr,hz,over,xal (show i<1000000000000000000 by omega)]
 ·simp [Qao_r0]) k
theorem xwj (l:List Int) (h:l.length≤1048576) (k):call Qgj [.one (ints l),.one (ints l)] k=k [.bool true]:=xaa (fun k=>by
 have hm:=h
 simp [Qgj]
 refine xeD l rI 1 (.bool false) rfl (fun i x hx hi K=>?_) fun K=>?_
 ·simp [-getElem?_pos,Qgj_r0,hx,hi,xal (show i<1000000000000000000 by omega)]
 ·simp [Qgj_r0]) k
theorem xuY (l:List ByteArray) (left:Int) (hw:(l.length≤maxLen∧∀y∈l,y.size≤maxLen)) (h2:0≤left) (h3:left≤1048576) (k):call Qah [.one (strs l),.one (I left)] k=k [I (szr ((l.length+xbl ByteArray.size l)) left)]:=xaa (fun k=>by
 simp only [Qah,xaA,List.length_map,xbB,xen hw.1 h2 h3,xaq,xah,xaw,xao,xai,xas,true_and,and_true]
 by_cases c:(l.length:Int)≤left
 rotate_left
 ·simp [xb4 c,show left-(l.length:Int)<0 by omega]
 simp only [xdP c,show ¬(left-(l.length:Int)<0) by omega,decide_false,Bool.false_eq_true,if_false]
 refine (xpd (neg:=k [I (-1)]) (fin:=fun t=>k [I t]) l rS 1 ByteArray.size (left-(l.length:Int)) (I 0) (by omega) (by omega) rfl (fun i x hx hi t ht1 ht2 K=>?_) fun t K=>?_).trans ?_
 ·have e:=xen (left:=t) (hw.2 x (List.mem_of_getElem? hx)) ht1 ht2
  simp [-getElem?_pos,Qah_r0,hx,hi,e,xal (show i<1000000000000000000 by have:=hw.1;omega)]
  by_cases hs:(x.size:Int)≤t
  ·simp [hs,show ¬(t-(x.size:Int)<0) by omega]
  ·simp [hs,show t-(x.size:Int)<0 by omega]
 ·simp [Qah_r0]
 ·by_cases hs:((xbl ByteArray.size l:Nat):Int)≤left-(l.length:Int)
  ·simp [xbw hs,hs]
  ·simp [xaO hs,hs]) k
theorem xuX (l:List ByteArray) (h:(l.length+xbl ByteArray.size l)≤1048576) (k):call Qav [.one (strs l)] k=k [strs l]:=xaa (fun k=>by
 have hm:=h
 simp [Qav,show l.length<1073741824 by omega]
 refine xh6 l rS rS [.str ⟨#[]⟩] 1 1 (.list 1 []) rfl (fun i x hx hi K rows hr hz=>?_) fun K=>?_
 ·simp [-getElem?_pos,Qav_r0,hx,hi,hr,hz,over,xal (show i<1000000000000000000 by omega)]
 ·simp [Qav_r0]) k
theorem xuv (l:List ByteArray) (h:(l.length+xbl ByteArray.size l)≤1048576) (k):call Qgq [.one (strs l),.one (strs l)] k=k [.bool true]:=xaa (fun k=>by
 have hm:=h
 simp [Qgq]
 refine xeD l rS 1 (.bool false) rfl (fun i x hx hi K=>?_) fun K=>?_
 ·simp [-getElem?_pos,Qgq_r0,hx,hi,xal (show i<1000000000000000000 by omega)]
 ·simp [Qgq_r0]) k
structure xb1 where
 Lst:List Int
 Need:Int
abbrev xcU (a:xb1):List PV:=[ints a.Lst,I a.Need]
def xbk (a:xb1):Nat:=a.Lst.length
def xrr (a:xb1):Prop:=a.Lst.length≤maxLen
theorem xtA (a:xb1) (left:Int) (hw:xrr a) (h2:0≤left) (h3:left≤1048576) (k):call Qac [.agg (xcU a),.one (I left)] k=k [I (szr (xbk a) left)]:=xaa (fun k=>by
 have g0:=hw
 unfold xbk
 simp only [Qac,un,cur0,xxm a.Lst (left) g0 h2 h3,xaq,xah,xaf,xaw,xao,xai,xas,true_and,and_true]
 by_cases c0:((a.Lst.length:Nat):Int)≤left
 rotate_left
 ·first | (simp [xaO c0,xaO c0];done) | (simp only [xaO c0,xaO c0];simp)
 simp only [xbw c0,show ¬(left-((a.Lst.length:Nat):Int)<0) by omega,decide_false,Bool.false_eq_true,if_false,xaq,xah,xaf,xaw,xao,xai,xas,true_and,and_true]) k
theorem xtz (a:xb1) (h:xbk a≤1048576) (k):call Qap [.agg (xcU a)] k=k (xcU a):=xaa (fun k=>by
 unfold xbk at h
 simp [Qap,xxb a.Lst (by omega)]) k
theorem xtg (a:xb1) (h:xbk a≤1048576) (k):call Qgk [.agg (xcU a),.agg (xcU a)] k=k [.bool true]:=xaa (fun k=>by
 unfold xbk at h
 simp [Qgk,xwj a.Lst (by omega)]) k
structure xfX where
 Key:Int
 Tag:Int
abbrev xdf (a:xfX):List PV:=[I a.Key,I a.Tag]
theorem xub (r:List PV) (hr:Sh.hasAll [.int .i64,.int .i64] r):∃a:xfX,r=xdf a∧True:=by
 obtain ⟨p1,r1,rfl,h1,hr1⟩:=all_cons hr
 obtain ⟨n1,rfl⟩:=xbW h1
 obtain ⟨p2,rfl,h2⟩:=xdz hr1
 obtain ⟨n2,rfl⟩:=xbW h2
 exact ⟨⟨n1,n2⟩,rfl,trivial⟩
theorem xw9 (a:xfX) (k):call Qar [.agg (xdf a)] k=k (xdf a):=xaa (fun k=>by
 simp [Qar]) k
theorem xuw (a:xfX) (k):call Qgm [.agg (xdf a),.agg (xdf a)] k=k [.bool true]:=xaa (fun k=>by
 simp [Qgm]) k
structure xat where
 Label:ByteArray
 Kind:Int
 Value:Int
 Path:List ByteArray
abbrev xaD (a:xat):List PV:=[.str a.Label,I a.Kind,I a.Value,strs a.Path]
def xaz (a:xat):Nat:=a.Label.size+((a.Path.length+xbl ByteArray.size a.Path))
def xl2 (a:xat):Prop:=a.Label.size≤maxLen∧(a.Path.length≤maxLen∧∀y∈a.Path,y.size≤maxLen)
theorem xra (r:List PV) (hr:Sh.hasAll [.str,.int .i64,.int .i64,.list [.str]] r):∃a:xat,r=xaD a∧xl2 a:=by
 obtain ⟨p1,r1,rfl,h1,hr1⟩:=all_cons hr
 obtain ⟨n1,rfl,g1⟩:=xpw h1
 obtain ⟨p2,r2,rfl,h2,hr2⟩:=all_cons hr1
 obtain ⟨n2,rfl⟩:=xbW h2
 obtain ⟨p3,r3,rfl,h3,hr3⟩:=all_cons hr2
 obtain ⟨n3,rfl⟩:=xbW h3
 obtain ⟨p4,rfl,h4⟩:=xdz hr3
 obtain ⟨n4,rfl,g4⟩:=xnk h4
 exact ⟨⟨n1,n2,n3,n4⟩,rfl,⟨g1,g4⟩⟩
theorem xxh (a:xat) (left:Int) (hw:xl2 a) (h2:0≤left) (h3:left≤1048576) (k):call Qai [.agg (xaD a),.one (I left)] k=k [I (szr (xaz a) left)]:=xaa (fun k=>by
 obtain ⟨g0,g1⟩:=hw
 unfold xaz
 simp only [Qai,un,cur0,xfK,xbB,xen (left:=left) g0 h2 h3,xaq,xah,xaf,xaw,xao,xai,xas,true_and,and_true]
 by_cases c0:((a.Label.size:Nat):Int)≤left
 rotate_left
 ·first | (simp [xb4 c0,show left-((a.Label.size:Nat):Int)<0 by omega];done) | (simp only [xb4 c0,show left-((a.Label.size:Nat):Int)<0 by omega];simp)
 simp only [xbw c0,xdP c0,show ¬(left-((a.Label.size:Nat):Int)<0) by omega,decide_false,Bool.false_eq_true,if_false,xuY a.Path (left-((a.Label.size:Nat):Int)) g1 (by omega) (by omega),xaq,xah,xaf,xaw,xao,xai,xas,true_and,and_true]
 by_cases c1:(((a.Path.length+xbl ByteArray.size a.Path):Nat):Int)≤left-((a.Label.size:Nat):Int)
 rotate_left
 ·first | (simp [xaO c1,xaO c1];done) | (simp only [xaO c1,xaO c1];simp)
 simp only [xbw c1,show ¬(left-((a.Label.size:Nat):Int)-(((a.Path.length+xbl ByteArray.size a.Path):Nat):Int)<0) by omega,decide_false,Bool.false_eq_true,if_false,xaq,xah,xaf,xaw,xao,xai,xas,true_and,and_true]) k
theorem xw5 (a:xat) (h:xaz a≤1048576) (k):call Qaw [.agg (xaD a)] k=k (xaD a):=xaa (fun k=>by
 unfold xaz at h
 simp [Qaw,xuX a.Path (by omega)]) k
theorem xwe (a:xat) (h:xaz a≤1048576) (k):call Qgr [.agg (xaD a),.agg (xaD a)] k=k [.bool true]:=xaa (fun k=>by
 unfold xaz at h
 simp [Qgr,xuv a.Path (by omega)]) k
structure xcv where
 At:Int
 Path:List Int
abbrev xcT (a:xcv):List PV:=[I a.At,ints a.Path]
def xbo (a:xcv):Nat:=a.Path.length
structure xkI where
 At:Int
 Before:xat
 After:xat
 Left:xcv
 Right:xcv
abbrev xl6 (a:xkI):List PV:=[I a.At,.str a.Before.Label,I a.Before.Kind,I a.Before.Value,strs a.Before.Path,.str a.After.Label,I a.After.Kind,I a.After.Value,strs a.After.Path,I a.Left.At,ints a.Left.Path,I a.Right.At,ints a.Right.Path]
def xg0 (a:xkI):Nat:=xaz a.Before+(xaz a.After+(xbo a.Left+(xbo a.Right)))
structure xa9 where
 Zone:Int
 Epoch:Int
 Kind:Int
 Time:Int
 Until:Int
 Count:Int
 Root:Int
 Prev:Int
 Keys:xb1
 Heirs:xb1
 Wait:Int
 Judge:xb1
 Frozen:Bool
abbrev xbp (a:xa9):List PV:=[I a.Zone,I a.Epoch,I a.Kind,I a.Time,I a.Until,I a.Count,I a.Root,I a.Prev,ints a.Keys.Lst,I a.Keys.Need,ints a.Heirs.Lst,I a.Heirs.Need,I a.Wait,ints a.Judge.Lst,I a.Judge.Need,.bool a.Frozen]
def xbx (a:xa9):Nat:=xbk a.Keys+(xbk a.Heirs+(xbk a.Judge))
def xul (a:xa9):Prop:=xrr a.Keys∧xrr a.Heirs∧xrr a.Judge
theorem xxl (a:xa9) (left:Int) (hw:xul a) (h2:0≤left) (h3:left≤1048576) (k):call Qad [.agg (xbp a),.one (I left)] k=k [I (szr (xbx a) left)]:=xaa (fun k=>by
 obtain ⟨g0,g1,g2⟩:=hw
 unfold xbx
 simp only [Qad,un,cur0,xtA a.Keys (left) g0 h2 h3,xaq,xah,xaf,xaw,xao,xai,xas,true_and,and_true]
 by_cases c0:((xbk a.Keys:Nat):Int)≤left
 rotate_left
 ·first | (simp [xb4 c0,xaO c0];done) | (simp only [xb4 c0,xaO c0];simp)
 simp only [xbw c0,xdP c0,show ¬(left-((xbk a.Keys:Nat):Int)<0) by omega,decide_false,Bool.false_eq_true,if_false,xtA a.Heirs (left-((xbk a.Keys:Nat):Int)) g1 (by omega) (by omega),xaq,xah,xaf,xaw,xao,xai,xas,true_and,and_true]
 by_cases c1:((xbk a.Heirs:Nat):Int)≤left-((xbk a.Keys:Nat):Int)
 rotate_left
 ·first | (simp [xb4 c1,xaO c1];done) | (simp only [xb4 c1,xaO c1];simp)
 simp only [xbw c1,xdP c1,show ¬(left-((xbk a.Keys:Nat):Int)-((xbk a.Heirs:Nat):Int)<0) by omega,decide_false,Bool.false_eq_true,if_false,xtA a.Judge (left-((xbk a.Keys:Nat):Int)-((xbk a.Heirs:Nat):Int)) g2 (by omega) (by omega),xaq,xah,xaf,xaw,xao,xai,xas,true_and,and_true]
 by_cases c2:((xbk a.Judge:Nat):Int)≤left-((xbk a.Keys:Nat):Int)-((xbk a.Heirs:Nat):Int)
 rotate_left
 ·first | (simp [xaO c2,xaO c2];done) | (simp only [xaO c2,xaO c2];simp)
 simp only [xbw c2,show ¬(left-((xbk a.Keys:Nat):Int)-((xbk a.Heirs:Nat):Int)-((xbk a.Judge:Nat):Int)<0) by omega,decide_false,Bool.false_eq_true,if_false,xaq,xah,xaf,xaw,xao,xai,xas,true_and,and_true]) k
theorem xxa (a:xa9) (h:xbx a≤1048576) (k):call Qaq [.agg (xbp a)] k=k (xbp a):=xaa (fun k=>by
 unfold xbx at h
 simp [Qaq,xtz a.Keys (by omega),xtz a.Heirs (by omega),xtz a.Judge (by omega)]) k
theorem xwi (a:xa9) (h:xbx a≤1048576) (k):call Qgl [.agg (xbp a),.agg (xbp a)] k=k [.bool true]:=xaa (fun k=>by
 unfold xbx at h
 simp [Qgl,xtg a.Keys (by omega),xtg a.Heirs (by omega),xtg a.Judge (by omega)]) k
theorem xsO {p:PV} (h:Sh.has (.list [.int .i64,.int .i64]) p):∃l:List xfX,p=.list 2 (l.map xdf)∧l.length≤maxLen:=by
 obtain ⟨l,h1,h2,h3⟩:=xfM xub 2 rfl h
 exact ⟨l,h1,h2⟩
theorem xxk (l:List xfX) (left:Int) (hw:l.length≤maxLen) (h2:0≤left) (h3:left≤1048576) (k):call Qae [.one (.list 2 (l.map xdf)),.one (I left)] k=k [I (szr l.length left)]:=xaa (fun k=>by
 simp only [Qae,xaA,List.length_map,xbB,xen hw h2 h3,xaq,xah,xaw,xao,xai,xas,true_and,and_true]
 by_cases c:(l.length:Int)≤left
 ·simp [xbw c,show ¬(left-(l.length:Int)<0) by omega]
 ·simp [xaO c,show left-(l.length:Int)<0 by omega]) k
theorem xw8 (l:List xfX) (h:l.length≤1048576) (k):call Qas [.one (.list 2 (l.map xdf))] k=k [.list 2 (l.map xdf)]:=xaa (fun k=>by
 have hm:=h
 simp [Qas,show l.length<1073741824 by omega]
 refine xh6 l xdf xdf [I 0,I 0] 2 2 (.list 2 []) rfl (fun i x hx hi K rows hr hz=>?_) fun K=>?_
 ·simp [-getElem?_pos,Qas_r0,hx,hi,hr,hz,over,xw9 x,xal (show i<1000000000000000000 by omega)]
 ·simp [Qas_r0]) k
theorem xwh (l:List xfX) (h:l.length≤1048576) (k):call Qgn [.one (.list 2 (l.map xdf)),.one (.list 2 (l.map xdf))] k=k [.bool true]:=xaa (fun k=>by
 have hm:=h
 simp [Qgn]
 refine xeD l xdf 2 (.bool false) rfl (fun i x hx hi K=>?_) fun K=>?_
 ·simp [-getElem?_pos,Qgn_r0,hx,hi,xuw x,xal (show i<1000000000000000000 by omega)]
 ·simp [Qgn_r0]) k
structure xag where
 Head:xa9
 Sigs:List xfX
abbrev xam (a:xag):List PV:=[I a.Head.Zone,I a.Head.Epoch,I a.Head.Kind,I a.Head.Time,I a.Head.Until,I a.Head.Count,I a.Head.Root,I a.Head.Prev,ints a.Head.Keys.Lst,I a.Head.Keys.Need,ints a.Head.Heirs.Lst,I a.Head.Heirs.Need,I a.Head.Wait,ints a.Head.Judge.Lst,I a.Head.Judge.Need,.bool a.Head.Frozen,.list 2 (a.Sigs.map xdf)]
def xav (a:xag):Nat:=xbx a.Head+(a.Sigs.length)
def xiN (a:xag):Prop:=xul a.Head∧a.Sigs.length≤maxLen
theorem xpJ (r:List PV) (hr:Sh.hasAll [.int .i64,.int .i64,.int .i64,.int .i64,.int .i64,.int .i64,.int .i64,.int .i64,.list [.int .i64],.int .i64,.list [.int .i64],.int .i64,.int .i64,.list [.int .i64],.int .i64,.bool,.list [.int .i64,.int .i64]] r):∃a:xag,r=xam a∧xiN a:=by
 obtain ⟨p1,r1,rfl,h1,hr1⟩:=all_cons hr
 obtain ⟨n1,rfl⟩:=xbW h1
 obtain ⟨p2,r2,rfl,h2,hr2⟩:=all_cons hr1
 obtain ⟨n2,rfl⟩:=xbW h2
 obtain ⟨p3,r3,rfl,h3,hr3⟩:=all_cons hr2
 obtain ⟨n3,rfl⟩:=xbW h3
 obtain ⟨p4,r4,rfl,h4,hr4⟩:=all_cons hr3
 obtain ⟨n4,rfl⟩:=xbW h4
 obtain ⟨p5,r5,rfl,h5,hr5⟩:=all_cons hr4
 obtain ⟨n5,rfl⟩:=xbW h5
 obtain ⟨p6,r6,rfl,h6,hr6⟩:=all_cons hr5
 obtain ⟨n6,rfl⟩:=xbW h6
 obtain ⟨p7,r7,rfl,h7,hr7⟩:=all_cons hr6
 obtain ⟨n7,rfl⟩:=xbW h7
 obtain ⟨p8,r8,rfl,h8,hr8⟩:=all_cons hr7
 obtain ⟨n8,rfl⟩:=xbW h8
 obtain ⟨p9,r9,rfl,h9,hr9⟩:=all_cons hr8
 obtain ⟨n9,rfl,g9⟩:=xkm h9
 obtain ⟨p10,r10,rfl,h10,hr10⟩:=all_cons hr9
 obtain ⟨n10,rfl⟩:=xbW h10
 obtain ⟨p11,r11,rfl,h11,hr11⟩:=all_cons hr10
 obtain ⟨n11,rfl,g11⟩:=xkm h11
 obtain ⟨p12,r12,rfl,h12,hr12⟩:=all_cons hr11
 obtain ⟨n12,rfl⟩:=xbW h12
 obtain ⟨p13,r13,rfl,h13,hr13⟩:=all_cons hr12
 obtain ⟨n13,rfl⟩:=xbW h13
 obtain ⟨p14,r14,rfl,h14,hr14⟩:=all_cons hr13
 obtain ⟨n14,rfl,g14⟩:=xkm h14
 obtain ⟨p15,r15,rfl,h15,hr15⟩:=all_cons hr14
 obtain ⟨n15,rfl⟩:=xbW h15
 obtain ⟨p16,r16,rfl,h16,hr16⟩:=all_cons hr15
 obtain ⟨n16,rfl⟩:=xqY h16
 obtain ⟨p17,rfl,h17⟩:=xdz hr16
 obtain ⟨n17,rfl,g17⟩:=xsO h17
 exact ⟨⟨⟨n1,n2,n3,n4,n5,n6,n7,n8,⟨n9,n10⟩,⟨n11,n12⟩,n13,⟨n14,n15⟩,n16⟩,n17⟩,rfl,⟨⟨g9,g11,g14⟩,g17⟩⟩
theorem xxj (a:xag) (left:Int) (hw:xiN a) (h2:0≤left) (h3:left≤1048576) (k):call Qaf [.agg (xam a),.one (I left)] k=k [I (szr (xav a) left)]:=xaa (fun k=>by
 obtain ⟨g0,g1⟩:=hw
 unfold xav
 simp only [Qaf,un,cur0,xxl a.Head (left) g0 h2 h3,xaq,xah,xaf,xaw,xao,xai,xas,true_and,and_true]
 by_cases c0:((xbx a.Head:Nat):Int)≤left
 rotate_left
 ·first | (simp [xb4 c0,xaO c0];done) | (simp only [xb4 c0,xaO c0];simp)
 simp only [xbw c0,xdP c0,show ¬(left-((xbx a.Head:Nat):Int)<0) by omega,decide_false,Bool.false_eq_true,if_false,xxk a.Sigs (left-((xbx a.Head:Nat):Int)) g1 (by omega) (by omega),xaq,xah,xaf,xaw,xao,xai,xas,true_and,and_true]
 by_cases c1:((a.Sigs.length:Nat):Int)≤left-((xbx a.Head:Nat):Int)
 rotate_left
 ·first | (simp [xaO c1,xaO c1];done) | (simp only [xaO c1,xaO c1];simp)
 simp only [xbw c1,show ¬(left-((xbx a.Head:Nat):Int)-((a.Sigs.length:Nat):Int)<0) by omega,decide_false,Bool.false_eq_true,if_false,xaq,xah,xaf,xaw,xao,xai,xas,true_and,and_true]) k
theorem xw7 (a:xag) (h:xav a≤1048576) (k):call Qat [.agg (xam a)] k=k (xam a):=xaa (fun k=>by
 unfold xav at h
 simp [Qat,xxa a.Head (by omega),xw8 a.Sigs (by omega)]) k
theorem xwg (a:xag) (h:xav a≤1048576) (k):call Qgo [.agg (xam a),.agg (xam a)] k=k [.bool true]:=xaa (fun k=>by
 unfold xav at h
 simp [Qgo,xwi a.Head (by omega),xwh a.Sigs (by omega)]) k
structure xfb where
 Before:xag
 A:xag
 B:xag
abbrev xbR (a:xfb):List PV:=[I a.Before.Head.Zone,I a.Before.Head.Epoch,I a.Before.Head.Kind,I a.Before.Head.Time,I a.Before.Head.Until,I a.Before.Head.Count,I a.Before.Head.Root,I a.Before.Head.Prev,ints a.Before.Head.Keys.Lst,I a.Before.Head.Keys.Need,ints a.Before.Head.Heirs.Lst,I a.Before.Head.Heirs.Need,I a.Before.Head.Wait,ints a.Before.Head.Judge.Lst,I a.Before.Head.Judge.Need,.bool a.Before.Head.Frozen,.list 2 (a.Before.Sigs.map xdf),I a.A.Head.Zone,I a.A.Head.Epoch,I a.A.Head.Kind,I a.A.Head.Time,I a.A.Head.Until,I a.A.Head.Count,I a.A.Head.Root,I a.A.Head.Prev,ints a.A.Head.Keys.Lst,I a.A.Head.Keys.Need,ints a.A.Head.Heirs.Lst,I a.A.Head.Heirs.Need,I a.A.Head.Wait,ints a.A.Head.Judge.Lst,I a.A.Head.Judge.Need,.bool a.A.Head.Frozen,.list 2 (a.A.Sigs.map xdf),I a.B.Head.Zone,I a.B.Head.Epoch,I a.B.Head.Kind,I a.B.Head.Time,I a.B.Head.Until,I a.B.Head.Count,I a.B.Head.Root,I a.B.Head.Prev,ints a.B.Head.Keys.Lst,I a.B.Head.Keys.Need,ints a.B.Head.Heirs.Lst,I a.B.Head.Heirs.Need,I a.B.Head.Wait,ints a.B.Head.Judge.Lst,I a.B.Head.Judge.Need,.bool a.B.Head.Frozen,.list 2 (a.B.Sigs.map xdf)]
def xar (l:List xag):Nat:=l.length+xbl xav l
theorem xn8 {p:PV} (h:Sh.has (.list [.int .i64,.int .i64,.int .i64,.int .i64,.int .i64,.int .i64,.int .i64,.int .i64,.list [.int .i64],.int .i64,.list [.int .i64],.int .i64,.int .i64,.list [.int .i64],.int .i64,.bool,.list [.int .i64,.int .i64]]) p):∃l:List xag,p=.list 17 (l.map xam)∧(l.length≤maxLen∧∀y∈l,xiN y):=by
 obtain ⟨l,h1,h2,h3⟩:=xfM xpJ 17 rfl h
 exact ⟨l,h1,h2,h3⟩
theorem xxi (l:List xag) (left:Int) (hw:(l.length≤maxLen∧∀y∈l,xiN y)) (h2:0≤left) (h3:left≤1048576) (k):call Qag [.one (.list 17 (l.map xam)),.one (I left)] k=k [I (szr (xar l) left)]:=xaa (fun k=>by
 simp only [Qag,xaA,List.length_map,xbB,xen hw.1 h2 h3,xaq,xah,xaw,xao,xai,xas,true_and,and_true]
 unfold xar
 by_cases c:(l.length:Int)≤left
 rotate_left
 ·simp [xb4 c,show left-(l.length:Int)<0 by omega]
 simp only [xdP c,show ¬(left-(l.length:Int)<0) by omega,decide_false,Bool.false_eq_true,if_false]
 refine (xpd (neg:=k [I (-1)]) (fin:=fun t=>k [I t]) l xam 17 xav (left-(l.length:Int)) (I 0) (by omega) (by omega) rfl (fun i x hx hi t ht1 ht2 K=>?_) fun t K=>?_).trans ?_
 ·have e:=xxj x t (hw.2 x (List.mem_of_getElem? hx)) ht1 ht2
  simp [-getElem?_pos,Qag_r0,hx,hi,e,xal (show i<1000000000000000000 by omega)]
  by_cases hs:((xav x:Nat):Int)≤t
  ·simp [xbw hs,hs,show ¬(t-((xav x:Nat):Int)<0) by omega]
  ·simp [xaO hs,hs]
 ·simp [Qag_r0]
 ·by_cases hs:((xbl xav l:Nat):Int)≤left-(l.length:Int)
  ·simp [xbw hs,hs]
  ·simp [xaO hs,hs]) k
theorem xw6 (l:List xag) (h:xar l≤1048576) (k):call Qau [.one (.list 17 (l.map xam))] k=k [.list 17 (l.map xam)]:=xaa (fun k=>by
 have hm:=h
 unfold xar at hm
 simp [Qau,show l.length<1073741824 by omega]
 refine xh6 l xam xam [I 0,I 0,I 0,I 0,I 0,I 0,I 0,I 0,.list 1 [],I 0,.list 1 [],I 0,I 0,.list 1 [],I 0,.bool false,.list 2 []] 17 17 (.list 17 []) rfl (fun i x hx hi K rows hr hz=>?_) fun K=>?_
 ·have hs:xav x≤xbl xav l:=xbn (s:=xav) (List.mem_of_getElem? hx)
  simp [-getElem?_pos,Qau_r0,hx,hi,hr,hz,over,xw7 x (by omega),xal (show i<1000000000000000000 by omega)]
 ·simp [Qau_r0]) k
theorem xwf (l:List xag) (h:xar l≤1048576) (k):call Qgp [.one (.list 17 (l.map xam)),.one (.list 17 (l.map xam))] k=k [.bool true]:=xaa (fun k=>by
 have hm:=h
 unfold xar at hm
 simp [Qgp]
 refine xeD l xam 17 (.bool false) rfl (fun i x hx hi K=>?_) fun K=>?_
 ·have hs:xav x≤xbl xav l:=xbn (s:=xav) (List.mem_of_getElem? hx)
  simp [-getElem?_pos,Qgp_r0,hx,hi,xwg x (by omega),xal (show i<1000000000000000000 by omega)]
 ·simp [Qgp_r0]) k
def xbf (l:List xat):Nat:=l.length+xbl xaz l
theorem xpL {p:PV} (h:Sh.has (.list [.str,.int .i64,.int .i64,.list [.str]]) p):∃l:List xat,p=.list 4 (l.map xaD)∧(l.length≤maxLen∧∀y∈l,xl2 y):=by
 obtain ⟨l,h1,h2,h3⟩:=xfM xra 4 rfl h
 exact ⟨l,h1,h2,h3⟩
theorem xxg (l:List xat) (left:Int) (hw:(l.length≤maxLen∧∀y∈l,xl2 y)) (h2:0≤left) (h3:left≤1048576) (k):call Qaj [.one (.list 4 (l.map xaD)),.one (I left)] k=k [I (szr (xbf l) left)]:=xaa (fun k=>by
 simp only [Qaj,xaA,List.length_map,xbB,xen hw.1 h2 h3,xaq,xah,xaw,xao,xai,xas,true_and,and_true]
 unfold xbf
 by_cases c:(l.length:Int)≤left
 rotate_left
 ·simp [xb4 c,show left-(l.length:Int)<0 by omega]
 simp only [xdP c,show ¬(left-(l.length:Int)<0) by omega,decide_false,Bool.false_eq_true,if_false]
 refine (xpd (neg:=k [I (-1)]) (fin:=fun t=>k [I t]) l xaD 4 xaz (left-(l.length:Int)) (I 0) (by omega) (by omega) rfl (fun i x hx hi t ht1 ht2 K=>?_) fun t K=>?_).trans ?_
 ·have e:=xxh x t (hw.2 x (List.mem_of_getElem? hx)) ht1 ht2
  simp [-getElem?_pos,Qaj_r0,hx,hi,e,xal (show i<1000000000000000000 by omega)]
  by_cases hs:((xaz x:Nat):Int)≤t
  ·simp [xbw hs,hs,show ¬(t-((xaz x:Nat):Int)<0) by omega]
  ·simp [xaO hs,hs]
 ·simp [Qaj_r0]
 ·by_cases hs:((xbl xaz l:Nat):Int)≤left-(l.length:Int)
  ·simp [xbw hs,hs]
  ·simp [xaO hs,hs]) k
theorem xw4 (l:List xat) (h:xbf l≤1048576) (k):call Qax [.one (.list 4 (l.map xaD))] k=k [.list 4 (l.map xaD)]:=xaa (fun k=>by
 have hm:=h
 unfold xbf at hm
 simp [Qax,show l.length<1073741824 by omega]
 refine xh6 l xaD xaD [.str ⟨#[]⟩,I 0,I 0,.list 1 []] 4 4 (.list 4 []) rfl (fun i x hx hi K rows hr hz=>?_) fun K=>?_
 ·have hs:xaz x≤xbl xaz l:=xbn (s:=xaz) (List.mem_of_getElem? hx)
  simp [-getElem?_pos,Qax_r0,hx,hi,hr,hz,over,xw5 x (by omega),xal (show i<1000000000000000000 by omega)]
 ·simp [Qax_r0]) k
theorem xwd (l:List xat) (h:xbf l≤1048576) (k):call Qgs [.one (.list 4 (l.map xaD)),.one (.list 4 (l.map xaD))] k=k [.bool true]:=xaa (fun k=>by
 have hm:=h
 unfold xbf at hm
 simp [Qgs]
 refine xeD l xaD 4 (.bool false) rfl (fun i x hx hi K=>?_) fun K=>?_
 ·have hs:xaz x≤xbl xaz l:=xbn (s:=xaz) (List.mem_of_getElem? hx)
  simp [-getElem?_pos,Qgs_r0,hx,hi,xwe x (by omega),xal (show i<1000000000000000000 by omega)]
 ·simp [Qgs_r0]) k
structure xb8 where
 Chain:List xag
 Entries:List xat
abbrev xcO (a:xb8):List PV:=[.list 17 (a.Chain.map xam),.list 4 (a.Entries.map xaD)]
def xb0 (a:xb8):Nat:=xar a.Chain+(xbf a.Entries)
def xp7 (a:xb8):Prop:=(a.Chain.length≤maxLen∧∀y∈a.Chain,xiN y)∧(a.Entries.length≤maxLen∧∀y∈a.Entries,xl2 y)
theorem xsN (r:List PV) (hr:Sh.hasAll [.list [.int .i64,.int .i64,.int .i64,.int .i64,.int .i64,.int .i64,.int .i64,.int .i64,.list [.int .i64],.int .i64,.list [.int .i64],.int .i64,.int .i64,.list [.int .i64],.int .i64,.bool,.list [.int .i64,.int .i64]],.list [.str,.int .i64,.int .i64,.list [.str]]] r):∃a:xb8,r=xcO a∧xp7 a:=by
 obtain ⟨p1,r1,rfl,h1,hr1⟩:=all_cons hr
 obtain ⟨n1,rfl,g1⟩:=xn8 h1
 obtain ⟨p2,rfl,h2⟩:=xdz hr1
 obtain ⟨n2,rfl,g2⟩:=xpL h2
 exact ⟨⟨n1,n2⟩,rfl,⟨g1,g2⟩⟩
theorem xxf (a:xb8) (left:Int) (hw:xp7 a) (h2:0≤left) (h3:left≤1048576) (k):call Qak [.agg (xcO a),.one (I left)] k=k [I (szr (xb0 a) left)]:=xaa (fun k=>by
 obtain ⟨g0,g1⟩:=hw
 unfold xb0
 simp only [Qak,un,cur0,xxi a.Chain (left) g0 h2 h3,xaq,xah,xaf,xaw,xao,xai,xas,true_and,and_true]
 by_cases c0:((xar a.Chain:Nat):Int)≤left
 rotate_left
 ·first | (simp [xb4 c0,xaO c0];done) | (simp only [xb4 c0,xaO c0];simp)
 simp only [xbw c0,xdP c0,show ¬(left-((xar a.Chain:Nat):Int)<0) by omega,decide_false,Bool.false_eq_true,if_false,xxg a.Entries (left-((xar a.Chain:Nat):Int)) g1 (by omega) (by omega),xaq,xah,xaf,xaw,xao,xai,xas,true_and,and_true]
 by_cases c1:((xbf a.Entries:Nat):Int)≤left-((xar a.Chain:Nat):Int)
 rotate_left
 ·first | (simp [xaO c1,xaO c1];done) | (simp only [xaO c1,xaO c1];simp)
 simp only [xbw c1,show ¬(left-((xar a.Chain:Nat):Int)-((xbf a.Entries:Nat):Int)<0) by omega,decide_false,Bool.false_eq_true,if_false,xaq,xah,xaf,xaw,xao,xai,xas,true_and,and_true]) k
theorem xw3 (a:xb8) (h:xb0 a≤1048576) (k):call Qay [.agg (xcO a)] k=k (xcO a):=xaa (fun k=>by
 unfold xb0 at h
 simp [Qay,xw6 a.Chain (by omega),xw4 a.Entries (by omega)]) k
theorem xwc (a:xb8) (h:xb0 a≤1048576) (k):call Qgt [.agg (xcO a),.agg (xcO a)] k=k [.bool true]:=xaa (fun k=>by
 unfold xb0 at h
 simp [Qgt,xwf a.Chain (by omega),xwd a.Entries (by omega)]) k
structure xau where
 Chain:List xag
 Found:Bool
 Entry:xat
 Proof:xcv
 Gap:xkI
abbrev xax (a:xau):List PV:=[.list 17 (a.Chain.map xam),.bool a.Found,.str a.Entry.Label,I a.Entry.Kind,I a.Entry.Value,strs a.Entry.Path,I a.Proof.At,ints a.Proof.Path,I a.Gap.At,.str a.Gap.Before.Label,I a.Gap.Before.Kind,I a.Gap.Before.Value,strs a.Gap.Before.Path,.str a.Gap.After.Label,I a.Gap.After.Kind,I a.Gap.After.Value,strs a.Gap.After.Path,I a.Gap.Left.At,ints a.Gap.Left.Path,I a.Gap.Right.At,ints a.Gap.Right.Path]
def xaL (a:xau):Nat:=xar a.Chain+(xaz a.Entry+(xbo a.Proof+(xg0 a.Gap)))
structure xaS where
 Chains:List (List xag)
 Forks:List xfb
abbrev xcM (a:xaS):List PV:=[.list 1 (a.Chains.map (fun l:List xag=>[.list 17 (l.map xam)])),.list 51 (a.Forks.map xbR)]
def xcy (l:List xb8):Nat:=l.length+xbl xb0 l
theorem xq9 {p:PV} (h:Sh.has (.list [.list [.int .i64,.int .i64,.int .i64,.int .i64,.int .i64,.int .i64,.int .i64,.int .i64,.list [.int .i64],.int .i64,.list [.int .i64],.int .i64,.int .i64,.list [.int .i64],.int .i64,.bool,.list [.int .i64,.int .i64]],.list [.str,.int .i64,.int .i64,.list [.str]]]) p):∃l:List xb8,p=.list 2 (l.map xcO)∧(l.length≤maxLen∧∀y∈l,xp7 y):=by
 obtain ⟨l,h1,h2,h3⟩:=xfM xsN 2 rfl h
 exact ⟨l,h1,h2,h3⟩
theorem xxe (l:List xb8) (left:Int) (hw:(l.length≤maxLen∧∀y∈l,xp7 y)) (h2:0≤left) (h3:left≤1048576) (k):call Qal [.one (.list 2 (l.map xcO)),.one (I left)] k=k [I (szr (xcy l) left)]:=xaa (fun k=>by
 simp only [Qal,xaA,List.length_map,xbB,xen hw.1 h2 h3,xaq,xah,xaw,xao,xai,xas,true_and,and_true]
 unfold xcy
 by_cases c:(l.length:Int)≤left
 rotate_left
 ·simp [xb4 c,show left-(l.length:Int)<0 by omega]
 simp only [xdP c,show ¬(left-(l.length:Int)<0) by omega,decide_false,Bool.false_eq_true,if_false]
 refine (xpd (neg:=k [I (-1)]) (fin:=fun t=>k [I t]) l xcO 2 xb0 (left-(l.length:Int)) (I 0) (by omega) (by omega) rfl (fun i x hx hi t ht1 ht2 K=>?_) fun t K=>?_).trans ?_
 ·have e:=xxf x t (hw.2 x (List.mem_of_getElem? hx)) ht1 ht2
  simp [-getElem?_pos,Qal_r0,hx,hi,e,xal (show i<1000000000000000000 by omega)]
  by_cases hs:((xb0 x:Nat):Int)≤t
  ·simp [xbw hs,hs,show ¬(t-((xb0 x:Nat):Int)<0) by omega]
  ·simp [xaO hs,hs]
 ·simp [Qal_r0]
 ·by_cases hs:((xbl xb0 l:Nat):Int)≤left-(l.length:Int)
  ·simp [xbw hs,hs]
  ·simp [xaO hs,hs]) k
theorem xw2 (l:List xb8) (h:xcy l≤1048576) (k):call Qaz [.one (.list 2 (l.map xcO))] k=k [.list 2 (l.map xcO)]:=xaa (fun k=>by
 have hm:=h
 unfold xcy at hm
 simp [Qaz,show l.length<1073741824 by omega]
 refine xh6 l xcO xcO [.list 17 [],.list 4 []] 2 2 (.list 2 []) rfl (fun i x hx hi K rows hr hz=>?_) fun K=>?_
 ·have hs:xb0 x≤xbl xb0 l:=xbn (s:=xb0) (List.mem_of_getElem? hx)
  simp [-getElem?_pos,Qaz_r0,hx,hi,hr,hz,over,xw3 x (by omega),xal (show i<1000000000000000000 by omega)]
 ·simp [Qaz_r0]) k
theorem xwb (l:List xb8) (h:xcy l≤1048576) (k):call Qgu [.one (.list 2 (l.map xcO)),.one (.list 2 (l.map xcO))] k=k [.bool true]:=xaa (fun k=>by
 have hm:=h
 unfold xcy at hm
 simp [Qgu]
 refine xeD l xcO 2 (.bool false) rfl (fun i x hx hi K=>?_) fun K=>?_
 ·have hs:xb0 x≤xbl xb0 l:=xbn (s:=xb0) (List.mem_of_getElem? hx)
  simp [-getElem?_pos,Qgu_r0,hx,hi,xwc x (by omega),xal (show i<1000000000000000000 by omega)]
 ·simp [Qgu_r0]) k
structure xa0 where
 Zones:List xb8
 Lie:Int
abbrev xaQ (a:xa0):List PV:=[.list 2 (a.Zones.map xcO),I a.Lie]
def xaY (a:xa0):Nat:=xcy a.Zones
def xkE (a:xa0):Prop:=(a.Zones.length≤maxLen∧∀y∈a.Zones,xp7 y)
theorem xpK (r:List PV) (hr:Sh.hasAll [.list [.list [.int .i64,.int .i64,.int .i64,.int .i64,.int .i64,.int .i64,.int .i64,.int .i64,.list [.int .i64],.int .i64,.list [.int .i64],.int .i64,.int .i64,.list [.int .i64],.int .i64,.bool,.list [.int .i64,.int .i64]],.list [.str,.int .i64,.int .i64,.list [.str]]],.int .i64] r):∃a:xa0,r=xaQ a∧xkE a:=by
 obtain ⟨p1,r1,rfl,h1,hr1⟩:=all_cons hr
 obtain ⟨n1,rfl,g1⟩:=xq9 h1
 obtain ⟨p2,rfl,h2⟩:=xdz hr1
 obtain ⟨n2,rfl⟩:=xbW h2
 exact ⟨⟨n1,n2⟩,rfl,g1⟩
theorem xxd (a:xa0) (left:Int) (hw:xkE a) (h2:0≤left) (h3:left≤1048576) (k):call Qam [.agg (xaQ a),.one (I left)] k=k [I (szr (xaY a) left)]:=xaa (fun k=>by
 have g0:=hw
 unfold xaY
 simp only [Qam,un,cur0,xxe a.Zones (left) g0 h2 h3,xaq,xah,xaf,xaw,xao,xai,xas,true_and,and_true]
 by_cases c0:((xcy a.Zones:Nat):Int)≤left
 rotate_left
 ·first | (simp [xaO c0,xaO c0];done) | (simp only [xaO c0,xaO c0];simp)
 simp only [xbw c0,show ¬(left-((xcy a.Zones:Nat):Int)<0) by omega,decide_false,Bool.false_eq_true,if_false,xaq,xah,xaf,xaw,xao,xai,xas,true_and,and_true]) k
theorem xw1 (a:xa0) (h:xaY a≤1048576) (k):call Qba [.agg (xaQ a)] k=k (xaQ a):=xaa (fun k=>by
 unfold xaY at h
 simp [Qba,xw2 a.Zones (by omega)]) k
theorem xwa (a:xa0) (h:xaY a≤1048576) (k):call Qgv [.agg (xaQ a),.agg (xaQ a)] k=k [.bool true]:=xaa (fun k=>by
 unfold xaY at h
 simp [Qgv,xwb a.Zones (by omega)]) k
structure xqe where
 Known:xaS
 Found:Bool
 Entry:xat
 Done:Bool
 Codes:List Int
abbrev xeI (a:xqe):List PV:=[.list 1 (a.Known.Chains.map (fun l:List xag=>[.list 17 (l.map xam)])),.list 51 (a.Known.Forks.map xbR),.bool a.Found,.str a.Entry.Label,I a.Entry.Kind,I a.Entry.Value,strs a.Entry.Path,.bool a.Done,ints a.Codes]
structure xu1 where
 Known:xaS
 Code:Int
 Entry:xat
 Zones:List Int
 Moves:Int
abbrev xgj (a:xu1):List PV:=[.list 1 (a.Known.Chains.map (fun l:List xag=>[.list 17 (l.map xam)])),.list 51 (a.Known.Forks.map xbR),I a.Code,.str a.Entry.Label,I a.Entry.Kind,I a.Entry.Value,strs a.Entry.Path,ints a.Zones,I a.Moves]
structure xce where
 Zone:Int
 Label:ByteArray
 Answer:xau
abbrev xbz (a:xce):List PV:=[I a.Zone,.str a.Label,.list 17 (a.Answer.Chain.map xam),.bool a.Answer.Found,.str a.Answer.Entry.Label,I a.Answer.Entry.Kind,I a.Answer.Entry.Value,strs a.Answer.Entry.Path,I a.Answer.Proof.At,ints a.Answer.Proof.Path,I a.Answer.Gap.At,.str a.Answer.Gap.Before.Label,I a.Answer.Gap.Before.Kind,I a.Answer.Gap.Before.Value,strs a.Answer.Gap.Before.Path,.str a.Answer.Gap.After.Label,I a.Answer.Gap.After.Kind,I a.Answer.Gap.After.Value,strs a.Answer.Gap.After.Path,I a.Answer.Gap.Left.At,ints a.Answer.Gap.Left.Path,I a.Answer.Gap.Right.At,ints a.Answer.Gap.Right.Path]
def xcF (a:xce):Nat:=a.Label.size+(xaL a.Answer)
def xdH (l:List xce):Nat:=l.length+xbl xcF l
structure xbH where
 Lst:List xce
abbrev xbY (a:xbH):List PV:=[.list 23 (a.Lst.map xbz)]
structure xiQ where
 Root:Int
 Path:List ByteArray
 Steps:List xce
abbrev xdy (a:xiQ):List PV:=[I a.Root,strs a.Path,.list 23 (a.Steps.map xbz)]
def xfJ (a:xiQ):Nat:=(a.Path.length+xbl ByteArray.size a.Path)+(xdH a.Steps)
structure xsb where
 Held:List Int
structure xu2 where
 Zone:xb8
 Held:List Int
def xbO (l:List xa0):Nat:=l.length+xbl xaY l
theorem xn9 {p:PV} (h:Sh.has (.list [.list [.list [.int .i64,.int .i64,.int .i64,.int .i64,.int .i64,.int .i64,.int .i64,.int .i64,.list [.int .i64],.int .i64,.list [.int .i64],.int .i64,.int .i64,.list [.int .i64],.int .i64,.bool,.list [.int .i64,.int .i64]],.list [.str,.int .i64,.int .i64,.list [.str]]],.int .i64]) p):∃l:List xa0,p=.list 2 (l.map xaQ)∧(l.length≤maxLen∧∀y∈l,xkE y):=by
 obtain ⟨l,h1,h2,h3⟩:=xfM xpK 2 rfl h
 exact ⟨l,h1,h2,h3⟩
theorem xxc (l:List xa0) (left:Int) (hw:(l.length≤maxLen∧∀y∈l,xkE y)) (h2:0≤left) (h3:left≤1048576) (k):call Qan [.one (.list 2 (l.map xaQ)),.one (I left)] k=k [I (szr (xbO l) left)]:=xaa (fun k=>by
 simp only [Qan,xaA,List.length_map,xbB,xen hw.1 h2 h3,xaq,xah,xaw,xao,xai,xas,true_and,and_true]
 unfold xbO
 by_cases c:(l.length:Int)≤left
 rotate_left
 ·simp [xb4 c,show left-(l.length:Int)<0 by omega]
 simp only [xdP c,show ¬(left-(l.length:Int)<0) by omega,decide_false,Bool.false_eq_true,if_false]
 refine (xpd (neg:=k [I (-1)]) (fin:=fun t=>k [I t]) l xaQ 2 xaY (left-(l.length:Int)) (I 0) (by omega) (by omega) rfl (fun i x hx hi t ht1 ht2 K=>?_) fun t K=>?_).trans ?_
 ·have e:=xxd x t (hw.2 x (List.mem_of_getElem? hx)) ht1 ht2
  simp [-getElem?_pos,Qan_r0,hx,hi,e,xal (show i<1000000000000000000 by omega)]
  by_cases hs:((xaY x:Nat):Int)≤t
  ·simp [xbw hs,hs,show ¬(t-((xaY x:Nat):Int)<0) by omega]
  ·simp [xaO hs,hs]
 ·simp [Qan_r0]
 ·by_cases hs:((xbl xaY l:Nat):Int)≤left-(l.length:Int)
  ·simp [xbw hs,hs]
  ·simp [xaO hs,hs]) k
theorem xw0 (l:List xa0) (h:xbO l≤1048576) (k):call Qbb [.one (.list 2 (l.map xaQ))] k=k [.list 2 (l.map xaQ)]:=xaa (fun k=>by
 have hm:=h
 unfold xbO at hm
 simp [Qbb,show l.length<1073741824 by omega]
 refine xh6 l xaQ xaQ [.list 2 [],I 0] 2 2 (.list 2 []) rfl (fun i x hx hi K rows hr hz=>?_) fun K=>?_
 ·have hs:xaY x≤xbl xaY l:=xbn (s:=xaY) (List.mem_of_getElem? hx)
  simp [-getElem?_pos,Qbb_r0,hx,hi,hr,hz,over,xw1 x (by omega),xal (show i<1000000000000000000 by omega)]
 ·simp [Qbb_r0]) k
theorem xv9 (l:List xa0) (h:xbO l≤1048576) (k):call Qgw [.one (.list 2 (l.map xaQ)),.one (.list 2 (l.map xaQ))] k=k [.bool true]:=xaa (fun k=>by
 have hm:=h
 unfold xbO at hm
 simp [Qgw]
 refine xeD l xaQ 2 (.bool false) rfl (fun i x hx hi K=>?_) fun K=>?_
 ·have hs:xaY x≤xbl xaY l:=xbn (s:=xaY) (List.mem_of_getElem? hx)
  simp [-getElem?_pos,Qgw_r0,hx,hi,xwa x (by omega),xal (show i<1000000000000000000 by omega)]
 ·simp [Qgw_r0]) k
structure xu0 where
 Now:Int
 Actors:List xsb
 Zones:List xb8
 Said:List xu2
 Servers:List xa0
 Known:xaS
 Cache:xbH
theorem xcc {ρ:List (Nat×MM)} {off t:Nat} {ss:List (Option Eff×SV)} {r r1 r':List PV} {p:PV} {k k':Int} (h1:r[off]? = some p) (h2:p.flat=true) (h3:r.set off (xsR mtx k t)=r1) (h4:IntKind.i64.wrap (k+1)=k+1) (h:xcx ρ mtx ss r1 (k+1)=some (r',k')):xcx ρ mtx ((some (.store off t),.kk)::(none,.kinc)::ss) r k=some (r',k'):=by
 subst h3
 simp only [xcx,xqD,xkt,h1,h2,if_true,h4]
 exact h
theorem xeU {ρ:List (Nat×MM)} {off f:Nat} {m:PV→Int→Option (PV×Int)} {ss:List (Option Eff×SV)} {r r1 r':List PV} {p p':PV} {k k1 k':Int} (h1:r[off]? = some p) (h2:lk ρ f=some (.sl m)) (h3:m p k=some (p',k1)) (h4:r.set off p'=r1) (h5:rg64 k1=true) (h:xcx ρ mtx ss r1 k1=some (r',k')):xcx ρ mtx ((some (.call off none f),.res)::ss) r k=some (r',k'):=by
 subst h4
 simp only [xcx,xqD,xkt,h1,h2,h3,h5,if_true]
 exact h
theorem xxz {ρ:List (Nat×MM)} {off n f:Nat} {m:List PV→Int→Option (List PV×Int)} {ss:List (Option Eff×SV)} {r r1 r' q q':List PV} {k k1 k':Int} (h1:off+n≤r.length) (h2:lk ρ f=some (.st m)) (hq:(r.drop off).take n=q) (h3:m q k=some (q',k1)) (h4:r.take off++q'++r.drop (off+n)=r1) (h5:rg64 k1=true) (h:xcx ρ mtx ss r1 k1=some (r',k')):xcx ρ mtx ((some (.call off (some n) f),.res)::ss) r k=some (r',k'):=by
 subst h4;subst hq
 simp only [xcx,xqD,xkt,h1,h2,h3,h5,if_true]
 exact h
theorem xdu {k:Int} (h1:0≤k) (h2:k≤1000000000000000):rg64 k=true:=by simp only [rg64,Bool.and_eq_true,decide_eq_true_eq];omega
theorem wr1 {k:Int} (h1:0≤k) (h2:k≤1000000000000000):IntKind.i64.wrap (k+1)=k+1:=xbK (by omega) (by omega)
theorem xe1 {sz:Nat} {rows:List (List PV)} {i:Nat} {r:List PV} (h:rows[i]? = some r) (k:List PV→Prop):xaj sz (.list sz rows) (I i) k=k r:=by
 simp [xaj,h]
theorem xcl {α:Type} (e:α→List PV) (c:α→Nat) {ρ:List (Nat×MM)} {ss:List (Option Eff×SV)} {R:(List PV→Prop)→List PV→Prop} (sz:Nat):∀(l:List α)
 (hel:∀x∈l,∀k,0≤k→k+40*(1+(c x:Int))≤1000000000000000→∃r' k',xcx ρ mtx ss (e x) k=some (r',k')∧k≤k'∧k'≤k+40*(1+(c x:Int))∧∀(rows:List (List PV)) (i:Nat) K z,rows[i]? = some r'→i<rows.length→rows.length≤1000000000000000→(R K [.list sz rows,I k,z,I i]↔K [.list sz rows,I k',z,I ((i:Int)+1)]))
 (k:Int),0≤k→k+40*((l.length:Int)+(xbl c l:Int))≤1000000000000000→∃rows' k',xdd ρ mtx ss (l.map e) k=some (rows',k')∧rows'.length=l.length∧k≤k'∧k'≤k+40*((l.length:Int)+(xbl c l:Int)) ∧
  ∀(pre:List (List PV)) (z:PV) (fin:Prop),(pre++rows').length≤1000000000000000→(∀K,R K [.list sz (pre++rows'),I k',z,I (pre++rows').length]↔fin)→(lp R [.list sz (pre++rows'),I k,z,I pre.length]↔fin)
 | [],hel,k,h0,hb=>⟨[],k,rfl,rfl,Int.le_refl _,by simp [xbl],fun pre z fin hl hf=>xaI fun K=>by have:=hf K;rwa [List.append_nil] at this ⊢⟩
 | x::l,hel,k,h0,hb=>by
  have hs:xbl c (x::l)=c x+xbl c l:=rfl
  rw [hs] at hb ⊢
  simp only [List.length_cons] at hb ⊢
  obtain ⟨r',k1,q1,q2,q3,q4⟩:=hel x (by simp) k h0 (by omega)
  obtain ⟨rows',k',p1,p2,p3,p4,p5⟩:=xcl e c sz l (fun y hy=>hel y (by simp [hy])) k1 (by omega) (by omega)
  refine ⟨r'::rows',k',by simp only [List.map_cons,xdd,q1,p1],by simp [p2],by omega,by omega,fun pre z fin hl hf=>?_⟩
  have hx:(pre++r'::rows')[pre.length]? = some r':=by simp
  have hlt:pre.length<(pre++r'::rows').length:=by simp
  rw [xbV fun K=>q4 (pre++r'::rows') pre.length K z hx hlt hl]
  have e1:pre++r'::rows'=(pre++[r'])++rows':=by simp
  have e2:((pre.length:Int)+1)=(((pre++[r']).length:Nat):Int):=by simp
  rw [e1,e2]
  exact p5 (pre++[r']) z fin (by rw [←e1];exact hl) (by rw [←e1];exact hf)
theorem xfc {α:Type} (e:α→List PV) (c:α→Nat) {ρ:List (Nat×MM)} {ss:List (Option Eff×SV)}:∀(l:List α)
 (hel:∀x∈l,∀k,0≤k→k+40*(1+(c x:Int))≤1000000000000000→∃r' k',xcx ρ mtx ss (e x) k=some (r',k')∧k≤k'∧k'≤k+40*(1+(c x:Int)))
 (k:Int),0≤k→k+40*((l.length:Int)+(xbl c l:Int))≤1000000000000000→∃rows' k',xdd ρ mtx ss (l.map e) k=some (rows',k')∧k≤k'∧k'≤k+40*((l.length:Int)+(xbl c l:Int))
 | [],hel,k,h0,hb=>⟨[],k,rfl,Int.le_refl _,by simp [xbl]⟩
 | x::l,hel,k,h0,hb=>by
  have hs:xbl c (x::l)=c x+xbl c l:=rfl
  rw [hs] at hb ⊢
  simp only [List.length_cons] at hb ⊢
  obtain ⟨r',k1,q1,q2,q3⟩:=hel x (by simp) k h0 (by omega)
  obtain ⟨rows',k',p1,p3,p4⟩:=xfc e c l (fun y hy=>hel y (by simp [hy])) k1 (by omega) (by omega)
  exact ⟨r'::rows',k',by simp only [List.map_cons,xdd,q1,p1],by omega,by omega⟩
theorem xdG {ρ:List (Nat×MM)} {sz:Nat} {ss:List (Option Eff×SV)} {rows rows':List (List PV)} {k k':Int} (h1:rows.length<1000000000000000000) (h2:xdd ρ mtx ss rows k=some (rows',k')):mkS ρ mtx sz ss (.list sz rows) k=some (.list sz rows',k'):=by
 simp only [mkS,true_and,h1,if_true,h2]
theorem xt0 {ρ:List (Nat×MM)} {esz:Nat} {ss:List (Option Eff×SV)} {ps ps':List PV} {k k':Int} (h1:ps.length=esz) (h2:xcx ρ mtx ss ps k=some (ps',k')):mkT ρ mtx esz ss ps k=some (ps',k'):=by
 simp only [mkT,h1,if_true,h2]
theorem xrN {α:Type} (l:List α):xbl (fun _:α=>0) l=0:=by
 induction l with
 | nil=>rfl
 | cons x l ih=>show 0+xbl _ l=0;rw [ih]
theorem xvm {α:Type} {f g:α→Nat} (h:∀x,f x=g x) (l:List α):xbl f l=xbl g l:=by rw [show f=g from funext h]
theorem xdj (l:List Int) (k:Int) (h0:0≤k) (hb:k+40*((l.length:Nat):Int)≤1000000000000000):∃p k',mk_IntS (ints l) k=some (p,k')∧k≤k'∧k'≤k+40*((l.length:Nat):Int)∧∀K,call Qhc [.one p,.one (I k)] K=K [I k']:=by
 have hm:(l.length:Nat)=l.length+xbl (fun x:Int=>0) l:=by rw [xrN];omega
 rw [hm] at hb ⊢
 have hrow:∀(A:Prop) (B:PV→PV→PV→PV→Prop),∀x∈l,∀k,0≤k→k+40*(1+((fun x:Int=>0) x:Int))≤1000000000000000→∃r' k',xcx mk_IntS_r mtx mk_IntS_s (rI x) k=some (r',k')∧k≤k'∧k'≤k+40*(1+((fun x:Int=>0) x:Int))∧∀(rows:List (List PV)) (i:Nat) K z,rows[i]? = some r'→i<rows.length→rows.length≤1000000000000000→((fun L w=>Qhc_r0 w L A B) K [.list 1 rows,I k,z,I i]↔K [.list 1 rows,I k',z,I ((i:Int)+1)]):=by
  intro A B x hx k h0 hb
  have hle:(l.length:Int)≤1000000000000000:=by omega
  clear hle
  try dsimp only at hb ⊢
  refine ⟨[I (k)],k+1,xcc rfl rfl rfl (wr1 (by omega) (by omega)) (rfl),by omega,by omega,fun rows i K z hr hi hn=>?_⟩
  have f0:=wr1 (k:=k) (by omega) (by omega)
  have hlt:(i:Int)<(rows.length:Int):=by omega
  simp only [Qhc_r0,un,cur0,xaA,xaq,hlt,decide_true,decide_false,xah,if_true,xe1 hr,xaf,xbi,xbS,bne_self_eq_false,Bool.false_eq_true,if_false,xbd,xe6,Bool.not_true,xcB,xaG,xek,f0,xal (show i<1000000000000000000 by omega),true_and,ne_eq,not_false_eq_true]
 obtain ⟨rows',k',p1,p2,p3,p4,p5⟩:=xcl rI (fun x:Int=>0) 1 l (hrow True fun _ _ _ _=>True) k h0 (by omega)
 have hle:(l.length:Int)≤1000000000000000:=by omega
 refine ⟨.list 1 rows',k',?_,p3,p4,fun K=>?_⟩
 ·exact xdG (by rw [List.length_map];omega) p1
 ·refine (xaa (fun K=>?_) K)
  obtain ⟨rows2,k2,r1,r2,r3,r4,r5⟩:=xcl rI (fun x:Int=>0) 1 l (hrow (rt [.sc] [(I (-1))] K) fun q6 q7 q8 q9=>rt [.sc] [q7] K) k h0 (by omega)
  have hs:=p1.symm.trans r1
  injection hs with hs;injection hs with hs1 hs2
  subst hs1;subst hs2
  have:=r5 [] (I 0) (K [I k']) (by rw [List.nil_append,p2];omega) fun K2=>by
   simp only [Qhc_r0,un,cur0,xaA,xaq,Int.lt_irrefl,decide_false,xah,Bool.false_eq_true,if_false,List.nil_append,xaw,xao,xai,xas,true_and]
  exact this
theorem xnW (l:List xfX) (k:Int) (h0:0≤k) (hb:k+40*((l.length:Nat):Int)≤1000000000000000):∃p k',mk_SigS (.list 2 (l.map xdf)) k=some (p,k')∧k≤k'∧k'≤k+40*((l.length:Nat):Int)∧∀K,call Qhd [.one p,.one (I k)] K=K [I k']:=by
 have hm:(l.length:Nat)=l.length+xbl (fun x:xfX=>0) l:=by rw [xrN];omega
 rw [hm] at hb ⊢
 have hrow:∀(A:Prop) (B:PV→PV→PV→PV→Prop),∀x∈l,∀k,0≤k→k+40*(1+((fun x:xfX=>0) x:Int))≤1000000000000000→∃r' k',xcx mk_SigS_r mtx mk_SigS_s (xdf x) k=some (r',k')∧k≤k'∧k'≤k+40*(1+((fun x:xfX=>0) x:Int))∧∀(rows:List (List PV)) (i:Nat) K z,rows[i]? = some r'→i<rows.length→rows.length≤1000000000000000→((fun L w=>Qhd_r0 w L A B) K [.list 2 rows,I k,z,I i]↔K [.list 2 rows,I k',z,I ((i:Int)+1)]):=by
  intro A B x hx k h0 hb
  have hle:(l.length:Int)≤1000000000000000:=by omega
  clear hle
  try dsimp only at hb ⊢
  refine ⟨[I (k),I (k+1)],k+1+1,xcc rfl rfl rfl (wr1 (by omega) (by omega)) (xcc rfl rfl rfl (wr1 (by omega) (by omega)) (rfl)),by omega,by omega,fun rows i K z hr hi hn=>?_⟩
  have f0:=wr1 (k:=k) (by omega) (by omega)
  have f1:=wr1 (k:=k+1) (by omega) (by omega)
  have hlt:(i:Int)<(rows.length:Int):=by omega
  simp only [Qhd_r0,un,cur0,xaA,xaq,hlt,decide_true,decide_false,xah,if_true,xe1 hr,xaf,xbi,xbS,bne_self_eq_false,Bool.false_eq_true,if_false,xbd,xe6,Bool.not_true,xcB,xaG,xek,f0,f1,xal (show i<1000000000000000000 by omega),true_and,ne_eq,not_false_eq_true]
 obtain ⟨rows',k',p1,p2,p3,p4,p5⟩:=xcl xdf (fun x:xfX=>0) 2 l (hrow True fun _ _ _ _=>True) k h0 (by omega)
 have hle:(l.length:Int)≤1000000000000000:=by omega
 refine ⟨.list 2 rows',k',?_,p3,p4,fun K=>?_⟩
 ·exact xdG (by rw [List.length_map];omega) p1
 ·refine (xaa (fun K=>?_) K)
  obtain ⟨rows2,k2,r1,r2,r3,r4,r5⟩:=xcl xdf (fun x:xfX=>0) 2 l (hrow (rt [.sc] [(I (-1))] K) fun q6 q7 q8 q9=>rt [.sc] [q7] K) k h0 (by omega)
  have hs:=p1.symm.trans r1
  injection hs with hs;injection hs with hs1 hs2
  subst hs1;subst hs2
  have:=r5 [] (I 0) (K [I k']) (by rw [List.nil_append,p2];omega) fun K2=>by
   simp only [Qhd_r0,un,cur0,xaA,xaq,Int.lt_irrefl,decide_false,xah,Bool.false_eq_true,if_false,List.nil_append,xaw,xao,xai,xas,true_and]
  exact this
theorem xf7 (l:List xag) (k:Int) (h0:0≤k) (hb:k+40*((xar l:Nat):Int)≤1000000000000000):∃p k',mk_SignedS (.list 17 (l.map xam)) k=some (p,k')∧k≤k'∧k'≤k+40*((xar l:Nat):Int)∧∀K,call Qhe [.one p,.one (I k)] K=K [I k']:=by
 have hm:xar l=l.length+xbl (fun x:xag=>xav x) l:=rfl
 rw [hm] at hb ⊢
 have hrow:∀(A:Prop) (B:PV→PV→PV→PV→Prop),∀x∈l,∀k,0≤k→k+40*(1+((fun x:xag=>xav x) x:Int))≤1000000000000000→∃r' k',xcx mk_SignedS_r mtx mk_SignedS_s (xam x) k=some (r',k')∧k≤k'∧k'≤k+40*(1+((fun x:xag=>xav x) x:Int))∧∀(rows:List (List PV)) (i:Nat) K z,rows[i]? = some r'→i<rows.length→rows.length≤1000000000000000→((fun L w=>Qhe_r0 w L A A A A A B) K [.list 17 rows,I k,z,I i]↔K [.list 17 rows,I k',z,I ((i:Int)+1)]):=by
  intro A B x hx k h0 hb
  have hle:(l.length:Int)≤1000000000000000:=by omega
  clear hle
  try dsimp only at hb ⊢
  simp only [xbx,xbk,xav] at hb ⊢
  obtain ⟨p1,k1,e1,l1,u1,g1⟩:=xdj x.Head.Keys.Lst (k+1+1+1+1+1+1+1+1) (by omega) (by omega)
  obtain ⟨p2,k2,e2,l2,u2,g2⟩:=xdj x.Head.Heirs.Lst (k1+1) (by omega) (by omega)
  obtain ⟨p3,k3,e3,l3,u3,g3⟩:=xdj x.Head.Judge.Lst (k2+1+1) (by omega) (by omega)
  obtain ⟨p4,k4,e4,l4,u4,g4⟩:=xnW x.Sigs (k3+1+1) (by omega) (by omega)
  refine ⟨[I (k),I (k+1),I (k+1+1),I (k+1+1+1),I (k+1+1+1+1),I (k+1+1+1+1+1),I (k+1+1+1+1+1+1),I (k+1+1+1+1+1+1+1),p1,I (k1),p2,I (k2),I (k2+1),p3,I (k3),.bool ((k3+1).tmod 3==0),p4],k4,xcc rfl rfl rfl (wr1 (by omega) (by omega)) (xcc rfl rfl rfl (wr1 (by omega) (by omega)) (xcc rfl rfl rfl (wr1 (by omega) (by omega)) (xcc rfl rfl rfl (wr1 (by omega) (by omega)) (xcc (r1:=[I (k),I (k+1),I (k+1+1),I (k+1+1+1),I (k+1+1+1+1),I x.Head.Count,I x.Head.Root,I x.Head.Prev,ints x.Head.Keys.Lst,I x.Head.Keys.Need,ints x.Head.Heirs.Lst,I x.Head.Heirs.Need,I x.Head.Wait,ints x.Head.Judge.Lst,I x.Head.Judge.Need,.bool x.Head.Frozen,.list 2 (x.Sigs.map xdf)]) rfl rfl rfl (wr1 (by omega) (by omega)) (xcc rfl rfl rfl (wr1 (by omega) (by omega)) (xcc rfl rfl rfl (wr1 (by omega) (by omega)) (xcc rfl rfl rfl (wr1 (by omega) (by omega)) (xeU rfl rfl e1 rfl (xdu (by omega) (by omega)) (xcc (r1:=[I (k),I (k+1),I (k+1+1),I (k+1+1+1),I (k+1+1+1+1),I (k+1+1+1+1+1),I (k+1+1+1+1+1+1),I (k+1+1+1+1+1+1+1),p1,I (k1),ints x.Head.Heirs.Lst,I x.Head.Heirs.Need,I x.Head.Wait,ints x.Head.Judge.Lst,I x.Head.Judge.Need,.bool x.Head.Frozen,.list 2 (x.Sigs.map xdf)]) rfl rfl rfl (wr1 (by omega) (by omega)) (xeU rfl rfl e2 rfl (xdu (by omega) (by omega)) (xcc rfl rfl rfl (wr1 (by omega) (by omega)) (xcc rfl rfl rfl (wr1 (by omega) (by omega)) (xeU rfl rfl e3 rfl (xdu (by omega) (by omega)) (xcc (r1:=[I (k),I (k+1),I (k+1+1),I (k+1+1+1),I (k+1+1+1+1),I (k+1+1+1+1+1),I (k+1+1+1+1+1+1),I (k+1+1+1+1+1+1+1),p1,I (k1),p2,I (k2),I (k2+1),p3,I (k3),.bool x.Head.Frozen,.list 2 (x.Sigs.map xdf)]) rfl rfl rfl (wr1 (by omega) (by omega)) (xcc rfl rfl rfl (wr1 (by omega) (by omega)) (xeU rfl rfl e4 rfl (xdu (by omega) (by omega)) (rfl))))))))))))))))),by omega,by omega,fun rows i K z hr hi hn=>?_⟩
  have f0:=wr1 (k:=k) (by omega) (by omega)
  have f1:=wr1 (k:=k+1) (by omega) (by omega)
  have f2:=wr1 (k:=k+1+1) (by omega) (by omega)
  have f3:=wr1 (k:=k+1+1+1) (by omega) (by omega)
  have f4:=wr1 (k:=k+1+1+1+1) (by omega) (by omega)
  have f5:=wr1 (k:=k+1+1+1+1+1) (by omega) (by omega)
  have f6:=wr1 (k:=k+1+1+1+1+1+1) (by omega) (by omega)
  have f7:=wr1 (k:=k+1+1+1+1+1+1+1) (by omega) (by omega)
  have f9:¬(k1<0):=by omega
  have f10:=wr1 (k:=k1) (by omega) (by omega)
  have f12:¬(k2<0):=by omega
  have f13:=wr1 (k:=k2) (by omega) (by omega)
  have f14:=wr1 (k:=k2+1) (by omega) (by omega)
  have f16:¬(k3<0):=by omega
  have f17:=wr1 (k:=k3) (by omega) (by omega)
  have f18:=wr1 (k:=k3+1) (by omega) (by omega)
  have f20:¬(k4<0):=by omega
  have hlt:(i:Int)<(rows.length:Int):=by omega
  simp only [Qhe_r0,un,cur0,xaA,xaq,hlt,decide_true,decide_false,xah,if_true,xe1 hr,xaf,xbi,xbS,bne_self_eq_false,Bool.false_eq_true,if_false,xbd,xe6,Bool.not_true,xcB,xaG,xek,f0,f1,f2,f3,f4,f5,f6,f7,g1,f9,f10,g2,f12,f13,f14,g3,f16,f17,f18,g4,f20,xal (show i<1000000000000000000 by omega),true_and,ne_eq,not_false_eq_true]
  simp
 obtain ⟨rows',k',p1,p2,p3,p4,p5⟩:=xcl xam (fun x:xag=>xav x) 17 l (hrow True fun _ _ _ _=>True) k h0 (by omega)
 have hle:(l.length:Int)≤1000000000000000:=by omega
 refine ⟨.list 17 rows',k',?_,p3,p4,fun K=>?_⟩
 ·exact xdG (by rw [List.length_map];omega) p1
 ·refine (xaa (fun K=>?_) K)
  obtain ⟨rows2,k2,r1,r2,r3,r4,r5⟩:=xcl xam (fun x:xag=>xav x) 17 l (hrow (rt [.sc] [(I (-1))] K) fun q6 q7 q8 q9=>rt [.sc] [q7] K) k h0 (by omega)
  have hs:=p1.symm.trans r1
  injection hs with hs;injection hs with hs1 hs2
  subst hs1;subst hs2
  have:=r5 [] (I 0) (K [I k']) (by rw [List.nil_append,p2];omega) fun K2=>by
   simp only [Qhe_r0,un,cur0,xaA,xaq,Int.lt_irrefl,decide_false,xah,Bool.false_eq_true,if_false,List.nil_append,xaw,xao,xai,xas,true_and]
  exact this
theorem xcq (l:List ByteArray) (k:Int) (h0:0≤k) (hb:k+40*(((l.length+xbl ByteArray.size l):Nat):Int)≤1000000000000000):∃p k',mk_StringS (strs l) k=some (p,k')∧k≤k'∧k'≤k+40*(((l.length+xbl ByteArray.size l):Nat):Int)∧∀K,call Qhf [.one p,.one (I k)] K=K [I k']:=by
 have hm:((l.length+xbl ByteArray.size l):Nat)=l.length+xbl (fun x:ByteArray=>x.size) l:=rfl
 rw [hm] at hb ⊢
 have hrow:∀(A:Prop) (B:PV→PV→PV→PV→Prop),∀x∈l,∀k,0≤k→k+40*(1+((fun x:ByteArray=>x.size) x:Int))≤1000000000000000→∃r' k',xcx mk_StringS_r mtx mk_StringS_s (rS x) k=some (r',k')∧k≤k'∧k'≤k+40*(1+((fun x:ByteArray=>x.size) x:Int))∧∀(rows:List (List PV)) (i:Nat) K z,rows[i]? = some r'→i<rows.length→rows.length≤1000000000000000→((fun L w=>Qhf_r0 w L A B) K [.list 1 rows,I k,z,I i]↔K [.list 1 rows,I k',z,I ((i:Int)+1)]):=by
  intro A B x hx k h0 hb
  have hle:(l.length:Int)≤1000000000000000:=by omega
  clear hle
  try dsimp only at hb ⊢
  have hb0:=hb
  refine ⟨[.str (mtx (k))],k+1,xcc rfl rfl rfl (wr1 (by omega) (by omega)) (rfl),by omega,by omega,fun rows i K z hr hi hn=>?_⟩
  have f0:=wr1 (k:=k) (by omega) (by omega)
  have f1:=laws_markText_n (k) (xdu (by omega) (by omega))
  have hlt:(i:Int)<(rows.length:Int):=by omega
  simp only [Qhf_r0,un,cur0,xaA,xaq,hlt,decide_true,decide_false,xah,if_true,xe1 hr,xaf,xbi,xbS,bne_self_eq_false,Bool.false_eq_true,if_false,xbd,xe6,Bool.not_true,xcB,xaG,xek,f0,f1,xal (show i<1000000000000000000 by omega),true_and,ne_eq,not_false_eq_true]
 obtain ⟨rows',k',p1,p2,p3,p4,p5⟩:=xcl rS (fun x:ByteArray=>x.size) 1 l (hrow True fun _ _ _ _=>True) k h0 (by omega)
 have hle:(l.length:Int)≤1000000000000000:=by omega
 refine ⟨.list 1 rows',k',?_,p3,p4,fun K=>?_⟩
 ·exact xdG (by rw [List.length_map];omega) p1
 ·refine (xaa (fun K=>?_) K)
  obtain ⟨rows2,k2,r1,r2,r3,r4,r5⟩:=xcl rS (fun x:ByteArray=>x.size) 1 l (hrow (rt [.sc] [(I (-1))] K) fun q6 q7 q8 q9=>rt [.sc] [q7] K) k h0 (by omega)
  have hs:=p1.symm.trans r1
  injection hs with hs;injection hs with hs1 hs2
  subst hs1;subst hs2
  have:=r5 [] (I 0) (K [I k']) (by rw [List.nil_append,p2];omega) fun K2=>by
   simp only [Qhf_r0,un,cur0,xaA,xaq,Int.lt_irrefl,decide_false,xah,Bool.false_eq_true,if_false,List.nil_append,xaw,xao,xai,xas,true_and]
  exact this
theorem xk9 (l:List xat) (k:Int) (h0:0≤k) (hb:k+40*((xbf l:Nat):Int)≤1000000000000000):∃p k',mk_EntryS (.list 4 (l.map xaD)) k=some (p,k')∧k≤k'∧k'≤k+40*((xbf l:Nat):Int)∧True:=by
 have hm:xbf l=l.length+xbl (fun x:xat=>xaz x) l:=rfl
 rw [hm] at hb ⊢
 have hrow:∀x∈l,∀k,0≤k→k+40*(1+((fun x:xat=>xaz x) x:Int))≤1000000000000000→∃r' k',xcx mk_EntryS_r mtx mk_EntryS_s (xaD x) k=some (r',k')∧k≤k'∧k'≤k+40*(1+((fun x:xat=>xaz x) x:Int)):=by
  intro x hx k h0 hb
  have hle:(l.length:Int)≤1000000000000000:=by omega
  clear hle
  try dsimp only at hb ⊢
  simp only [xaz] at hb ⊢
  obtain ⟨p1,k1,e1,l1,u1,g1⟩:=xcq x.Path (k+1+1+1) (by omega) (by omega)
  exact ⟨[.str (mtx (k)),I (k+1),I (k+1+1),p1],k1,xcc rfl rfl rfl (wr1 (by omega) (by omega)) (xcc rfl rfl rfl (wr1 (by omega) (by omega)) (xcc rfl rfl rfl (wr1 (by omega) (by omega)) (xeU rfl rfl e1 rfl (xdu (by omega) (by omega)) (rfl)))),by omega,by omega⟩
 obtain ⟨rows',k',p1,p3,p4⟩:=xfc xaD (fun x:xat=>xaz x) l hrow k h0 (by omega)
 exact ⟨.list 4 rows',k',xdG (by rw [List.length_map];omega) p1,p3,p4,trivial⟩
theorem xmi (l:List xb8) (k:Int) (h0:0≤k) (hb:k+40*((xcy l:Nat):Int)≤1000000000000000):∃p k',mk_ZoneS (.list 2 (l.map xcO)) k=some (p,k')∧k≤k'∧k'≤k+40*((xcy l:Nat):Int)∧True:=by
 have hm:xcy l=l.length+xbl (fun x:xb8=>xb0 x) l:=rfl
 rw [hm] at hb ⊢
 have hrow:∀x∈l,∀k,0≤k→k+40*(1+((fun x:xb8=>xb0 x) x:Int))≤1000000000000000→∃r' k',xcx mk_ZoneS_r mtx mk_ZoneS_s (xcO x) k=some (r',k')∧k≤k'∧k'≤k+40*(1+((fun x:xb8=>xb0 x) x:Int)):=by
  intro x hx k h0 hb
  have hle:(l.length:Int)≤1000000000000000:=by omega
  clear hle
  try dsimp only at hb ⊢
  simp only [xb0] at hb ⊢
  obtain ⟨p1,k1,e1,l1,u1,g1⟩:=xf7 x.Chain (k) (by omega) (by omega)
  obtain ⟨p2,k2,e2,l2,u2,g2⟩:=xk9 x.Entries (k1) (by omega) (by omega)
  exact ⟨[p1,p2],k2,xeU rfl rfl e1 rfl (xdu (by omega) (by omega)) (xeU rfl rfl e2 rfl (xdu (by omega) (by omega)) (rfl)),by omega,by omega⟩
 obtain ⟨rows',k',p1,p3,p4⟩:=xfc xcO (fun x:xb8=>xb0 x) l hrow k h0 (by omega)
 exact ⟨.list 2 rows',k',xdG (by rw [List.length_map];omega) p1,p3,p4,trivial⟩
theorem xkb (l:List xa0) (k:Int) (h0:0≤k) (hb:k+40*((xbO l:Nat):Int)≤1000000000000000):∃p k',mk_ServerS (.list 2 (l.map xaQ)) k=some (p,k')∧k≤k'∧k'≤k+40*((xbO l:Nat):Int)∧True:=by
 have hm:xbO l=l.length+xbl (fun x:xa0=>xaY x) l:=rfl
 rw [hm] at hb ⊢
 have hrow:∀x∈l,∀k,0≤k→k+40*(1+((fun x:xa0=>xaY x) x:Int))≤1000000000000000→∃r' k',xcx mk_ServerS_r mtx mk_ServerS_s (xaQ x) k=some (r',k')∧k≤k'∧k'≤k+40*(1+((fun x:xa0=>xaY x) x:Int)):=by
  intro x hx k h0 hb
  have hle:(l.length:Int)≤1000000000000000:=by omega
  clear hle
  try dsimp only at hb ⊢
  simp only [xaY] at hb ⊢
  obtain ⟨p1,k1,e1,l1,u1,g1⟩:=xmi x.Zones (k) (by omega) (by omega)
  exact ⟨[p1,I (k1)],k1+1,xeU rfl rfl e1 rfl (xdu (by omega) (by omega)) (xcc rfl rfl rfl (wr1 (by omega) (by omega)) (rfl)),by omega,by omega⟩
 obtain ⟨rows',k',p1,p3,p4⟩:=xfc xaQ (fun x:xa0=>xaY x) l hrow k h0 (by omega)
 exact ⟨.list 2 rows',k',xdG (by rw [List.length_map];omega) p1,p3,p4,trivial⟩
theorem xka (l:List xce) (k:Int) (h0:0≤k) (hb:k+40*((xdH l:Nat):Int)≤1000000000000000):∃p k',mk_StoredS (.list 23 (l.map xbz)) k=some (p,k')∧k≤k'∧k'≤k+40*((xdH l:Nat):Int)∧∀K,call Qhg [.one p,.one (I k)] K=K [I k']:=by
 have hm:xdH l=l.length+xbl (fun x:xce=>xcF x) l:=rfl
 rw [hm] at hb ⊢
 have hrow:∀(A:Prop) (B:PV→PV→PV→PV→Prop),∀x∈l,∀k,0≤k→k+40*(1+((fun x:xce=>xcF x) x:Int))≤1000000000000000→∃r' k',xcx mk_StoredS_r mtx mk_StoredS_s (xbz x) k=some (r',k')∧k≤k'∧k'≤k+40*(1+((fun x:xce=>xcF x) x:Int))∧∀(rows:List (List PV)) (i:Nat) K z,rows[i]? = some r'→i<rows.length→rows.length≤1000000000000000→((fun L w=>Qhg_r0 w L A A A A A A A A A A A A B) K [.list 23 rows,I k,z,I i]↔K [.list 23 rows,I k',z,I ((i:Int)+1)]):=by
  intro A B x hx k h0 hb
  have hle:(l.length:Int)≤1000000000000000:=by omega
  clear hle
  try dsimp only at hb ⊢
  simp only [xaL,xaz,xg0,xbo,xcF] at hb ⊢
  obtain ⟨p1,k1,e1,l1,u1,g1⟩:=xf7 x.Answer.Chain (k+1+1) (by omega) (by omega)
  obtain ⟨p2,k2,e2,l2,u2,g2⟩:=xcq x.Answer.Entry.Path (k1+1+1+1+1) (by omega) (by omega)
  obtain ⟨p3,k3,e3,l3,u3,g3⟩:=xdj x.Answer.Proof.Path (k2+1) (by omega) (by omega)
  obtain ⟨p4,k4,e4,l4,u4,g4⟩:=xcq x.Answer.Gap.Before.Path (k3+1+1+1+1) (by omega) (by omega)
  obtain ⟨p5,k5,e5,l5,u5,g5⟩:=xcq x.Answer.Gap.After.Path (k4+1+1+1) (by omega) (by omega)
  obtain ⟨p6,k6,e6,l6,u6,g6⟩:=xdj x.Answer.Gap.Left.Path (k5+1) (by omega) (by omega)
  obtain ⟨p7,k7,e7,l7,u7,g7⟩:=xdj x.Answer.Gap.Right.Path (k6+1) (by omega) (by omega)
  refine ⟨[I (k),.str (mtx (k+1)),p1,.bool ((k1).tmod 3==0),.str (mtx (k1+1)),I (k1+1+1),I (k1+1+1+1),p2,I (k2),p3,I (k3),.str (mtx (k3+1)),I (k3+1+1),I (k3+1+1+1),p4,.str (mtx (k4)),I (k4+1),I (k4+1+1),p5,I (k5),p6,I (k6),p7],k7,xcc rfl rfl rfl (wr1 (by omega) (by omega)) (xcc rfl rfl rfl (wr1 (by omega) (by omega)) (xeU rfl rfl e1 rfl (xdu (by omega) (by omega)) (xcc rfl rfl rfl (wr1 (by omega) (by omega)) (xcc (r1:=[I (k),.str (mtx (k+1)),p1,.bool ((k1).tmod 3==0),.str (mtx (k1+1)),I x.Answer.Entry.Kind,I x.Answer.Entry.Value,strs x.Answer.Entry.Path,I x.Answer.Proof.At,ints x.Answer.Proof.Path,I x.Answer.Gap.At,.str x.Answer.Gap.Before.Label,I x.Answer.Gap.Before.Kind,I x.Answer.Gap.Before.Value,strs x.Answer.Gap.Before.Path,.str x.Answer.Gap.After.Label,I x.Answer.Gap.After.Kind,I x.Answer.Gap.After.Value,strs x.Answer.Gap.After.Path,I x.Answer.Gap.Left.At,ints x.Answer.Gap.Left.Path,I x.Answer.Gap.Right.At,ints x.Answer.Gap.Right.Path]) rfl rfl rfl (wr1 (by omega) (by omega)) (xcc rfl rfl rfl (wr1 (by omega) (by omega)) (xcc rfl rfl rfl (wr1 (by omega) (by omega)) (xeU rfl rfl e2 rfl (xdu (by omega) (by omega)) (xcc rfl rfl rfl (wr1 (by omega) (by omega)) (xeU (r1:=[I (k),.str (mtx (k+1)),p1,.bool ((k1).tmod 3==0),.str (mtx (k1+1)),I (k1+1+1),I (k1+1+1+1),p2,I (k2),p3,I x.Answer.Gap.At,.str x.Answer.Gap.Before.Label,I x.Answer.Gap.Before.Kind,I x.Answer.Gap.Before.Value,strs x.Answer.Gap.Before.Path,.str x.Answer.Gap.After.Label,I x.Answer.Gap.After.Kind,I x.Answer.Gap.After.Value,strs x.Answer.Gap.After.Path,I x.Answer.Gap.Left.At,ints x.Answer.Gap.Left.Path,I x.Answer.Gap.Right.At,ints x.Answer.Gap.Right.Path]) rfl rfl e3 rfl (xdu (by omega) (by omega)) (xcc rfl rfl rfl (wr1 (by omega) (by omega)) (xcc rfl rfl rfl (wr1 (by omega) (by omega)) (xcc rfl rfl rfl (wr1 (by omega) (by omega)) (xcc rfl rfl rfl (wr1 (by omega) (by omega)) (xeU (r1:=[I (k),.str (mtx (k+1)),p1,.bool ((k1).tmod 3==0),.str (mtx (k1+1)),I (k1+1+1),I (k1+1+1+1),p2,I (k2),p3,I (k3),.str (mtx (k3+1)),I (k3+1+1),I (k3+1+1+1),p4,.str x.Answer.Gap.After.Label,I x.Answer.Gap.After.Kind,I x.Answer.Gap.After.Value,strs x.Answer.Gap.After.Path,I x.Answer.Gap.Left.At,ints x.Answer.Gap.Left.Path,I x.Answer.Gap.Right.At,ints x.Answer.Gap.Right.Path]) rfl rfl e4 rfl (xdu (by omega) (by omega)) (xcc rfl rfl rfl (wr1 (by omega) (by omega)) (xcc rfl rfl rfl (wr1 (by omega) (by omega)) (xcc rfl rfl rfl (wr1 (by omega) (by omega)) (xeU rfl rfl e5 rfl (xdu (by omega) (by omega)) (xcc (r1:=[I (k),.str (mtx (k+1)),p1,.bool ((k1).tmod 3==0),.str (mtx (k1+1)),I (k1+1+1),I (k1+1+1+1),p2,I (k2),p3,I (k3),.str (mtx (k3+1)),I (k3+1+1),I (k3+1+1+1),p4,.str (mtx (k4)),I (k4+1),I (k4+1+1),p5,I (k5),ints x.Answer.Gap.Left.Path,I x.Answer.Gap.Right.At,ints x.Answer.Gap.Right.Path]) rfl rfl rfl (wr1 (by omega) (by omega)) (xeU rfl rfl e6 rfl (xdu (by omega) (by omega)) (xcc rfl rfl rfl (wr1 (by omega) (by omega)) (xeU rfl rfl e7 rfl (xdu (by omega) (by omega)) (rfl))))))))))))))))))))))),by omega,by omega,fun rows i K z hr hi hn=>?_⟩
  have f0:=wr1 (k:=k) (by omega) (by omega)
  have f1:=wr1 (k:=k+1) (by omega) (by omega)
  have f2:=laws_markText_n (k+1) (xdu (by omega) (by omega))
  have f4:¬(k1<0):=by omega
  have f5:=wr1 (k:=k1) (by omega) (by omega)
  have f6:=wr1 (k:=k1+1) (by omega) (by omega)
  have f7:=laws_markText_n (k1+1) (xdu (by omega) (by omega))
  have f8:=wr1 (k:=k1+1+1) (by omega) (by omega)
  have f9:=wr1 (k:=k1+1+1+1) (by omega) (by omega)
  have f11:¬(k2<0):=by omega
  have f12:=wr1 (k:=k2) (by omega) (by omega)
  have f14:¬(k3<0):=by omega
  have f15:=wr1 (k:=k3) (by omega) (by omega)
  have f16:=wr1 (k:=k3+1) (by omega) (by omega)
  have f17:=laws_markText_n (k3+1) (xdu (by omega) (by omega))
  have f18:=wr1 (k:=k3+1+1) (by omega) (by omega)
  have f19:=wr1 (k:=k3+1+1+1) (by omega) (by omega)
  have f21:¬(k4<0):=by omega
  have f22:=wr1 (k:=k4) (by omega) (by omega)
  have f23:=laws_markText_n (k4) (xdu (by omega) (by omega))
  have f24:=wr1 (k:=k4+1) (by omega) (by omega)
  have f25:=wr1 (k:=k4+1+1) (by omega) (by omega)
  have f27:¬(k5<0):=by omega
  have f28:=wr1 (k:=k5) (by omega) (by omega)
  have f30:¬(k6<0):=by omega
  have f31:=wr1 (k:=k6) (by omega) (by omega)
  have f33:¬(k7<0):=by omega
  have hlt:(i:Int)<(rows.length:Int):=by omega
  simp only [Qhg_r0,un,cur0,xaA,xaq,hlt,decide_true,decide_false,xah,if_true,xe1 hr,xaf,xbi,xbS,bne_self_eq_false,Bool.false_eq_true,if_false,xbd,xe6,Bool.not_true,xcB,xaG,xek,f0,f1,f2,g1,f4,f5,f6,f7,f8,f9,g2,f11,f12,g3,f14,f15,f16,f17,f18,f19,g4,f21,f22,f23,f24,f25,g5,f27,f28,g6,f30,f31,g7,f33,xal (show i<1000000000000000000 by omega),true_and,ne_eq,not_false_eq_true]
  simp
 obtain ⟨rows',k',p1,p2,p3,p4,p5⟩:=xcl xbz (fun x:xce=>xcF x) 23 l (hrow True fun _ _ _ _=>True) k h0 (by omega)
 have hle:(l.length:Int)≤1000000000000000:=by omega
 refine ⟨.list 23 rows',k',?_,p3,p4,fun K=>?_⟩
 ·exact xdG (by rw [List.length_map];omega) p1
 ·refine (xaa (fun K=>?_) K)
  obtain ⟨rows2,k2,r1,r2,r3,r4,r5⟩:=xcl xbz (fun x:xce=>xcF x) 23 l (hrow (rt [.sc] [(I (-1))] K) fun q6 q7 q8 q9=>rt [.sc] [q7] K) k h0 (by omega)
  have hs:=p1.symm.trans r1
  injection hs with hs;injection hs with hs1 hs2
  subst hs1;subst hs2
  have:=r5 [] (I 0) (K [I k']) (by rw [List.nil_append,p2];omega) fun K2=>by
   simp only [Qhg_r0,un,cur0,xaA,xaq,Int.lt_irrefl,decide_false,xah,Bool.false_eq_true,if_false,List.nil_append,xaw,xao,xai,xas,true_and]
  exact this
theorem xla (a:xiQ) (k:Int) (h0:0≤k) (hb:k+40*((xfJ a:Nat):Int)≤1000000000000000):∃c_1 c_2 k',mk_Bundle (xdy a) k=some ([I a.Root,c_1,c_2],k')∧k≤k'∧k'≤k+40*((xfJ a:Nat):Int)∧∀K,call Qku [.agg [I a.Root,c_1,c_2],.one (I k)] K=K [I k']:=by
 simp only [xfJ] at hb ⊢
 obtain ⟨p1,k1,e1,l1,u1,g1⟩:=xcq a.Path (k) (by omega) (by omega)
 obtain ⟨p2,k2,e2,l2,u2,g2⟩:=xka a.Steps (k1) (by omega) (by omega)
 refine ⟨p1,p2,k2,?_,by omega,by omega,fun K=>xaa (fun K=>?_) K⟩
 ·exact xt0 rfl (xeU rfl rfl e1 rfl (xdu (by omega) (by omega)) (xeU rfl rfl e2 rfl (xdu (by omega) (by omega)) (rfl)))
 ·have f1:¬(k1<0):=by omega
  have f2:¬(k2<0):=by omega
  simp only [Qku,un,cur0,g1,g2,f1,f2,xaf,xaq,decide_false,xah,Bool.false_eq_true,if_false,xaw,xao,xai,xas,true_and]
end Go.Ev
