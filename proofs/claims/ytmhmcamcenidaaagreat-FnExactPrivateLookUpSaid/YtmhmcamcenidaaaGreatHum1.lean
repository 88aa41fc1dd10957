/- What each function hands back, and that the law answers true, part 1. -/
import Derived.Test.YtmhmcamcenidaaaGreatFn4
set_option linter.unusedVariables false
set_option linter.unusedSimpArgs false
set_option maxHeartbeats 1000000
set_option maxRecDepth 10000
namespace Go.Ev
open Go.Proofs
theorem xcC {s t:Nat} {left:Int} (h:(s:Int)≤left):szr (s+t) left=szr t (left-s):=by
 unfold szr
 by_cases h1:(t:Int)≤left-s
 ·rw [if_pos h1,if_pos (by omega)];omega
 ·rw [if_neg h1,if_neg (by omega)]
theorem xbl {s t:Nat} {left:Int} (h:¬(s:Int)≤left):szr (s+t) left=-1:=by unfold szr;rw [if_neg (by omega)]
theorem xaw {s:Nat} {left:Int} (h:¬(s:Int)≤left):szr s left=-1:=by unfold szr;rw [if_neg h]
theorem xa7 {s:Nat} {left:Int} (h:(s:Int)≤left):szr s left=left-s:=by unfold szr;rw [if_pos h]
theorem xaZ {α:Type} {s:α→Nat} {x:α}:∀{l:List α},x∈l→s x≤xbd s l
 | y::l,h=>by
  rw [show xbd s (y::l)=s y+xbd s l from rfl]
  rcases List.mem_cons.1 h with rfl | h
  ·omega
  ·have:=xaZ (s:=s) h;omega
theorem xqv {p:PV} (hp:Sh.has (.list [.str]) p):∃l:List ByteArray,p=strs l∧(l.length≤maxLen∧∀y∈l,y.size≤maxLen):=by
 obtain ⟨l,h1,h2,h3⟩:=xeo (enc:=rS) (wf:=fun y=>y.size≤maxLen) (fun r hr=>by
  obtain ⟨p,rfl,h⟩:=xcV hr
  obtain ⟨n,rfl,g⟩:=xmg h
  exact ⟨n,rfl,g⟩) 1 rfl hp
 exact ⟨l,h1,h2,h3⟩
theorem xw1 (l:List Int) (left:Int) (hw:l.length≤maxLen) (h2:0≤left) (h3:left≤1048576) (k):call Qab [.one (ints l),.one (I left)] k=k [I (szr l.length left)]:=xaa (fun k=>by
 simp only [Qab,xay,List.length_map,xbu,xdo hw h2 h3,xao,xah,xau,xap,xaj,xas,true_and,and_true]
 by_cases c:(l.length:Int)≤left
 ·simp [xa7 c,show ¬(left-(l.length:Int)<0) by omega]
 ·simp [xaw c,show left-(l.length:Int)<0 by omega]) k
theorem xwN (l:List Int) (h:l.length≤1048576) (k):call Qas [.one (ints l)] k=k [ints l]:=xaa (fun k=>by
 have hm:=h
 simp [Qas,show l.length<1073741824 by omega]
 refine xf1 l rI rI [I 0] 1 1 (.list 1 []) rfl (fun i x hx hi K rows hr hz=>?_) fun K=>?_
 ·simp [-getElem?_pos,Qas_r0,hx,hi,hr,hz,over,xal (show i<1000000000000000000 by omega)]
 ·simp [Qas_r0]) k
theorem xvN (l:List Int) (h:l.length≤1048576) (k):call Qgo [.one (ints l),.one (ints l)] k=k [.bool true]:=xaa (fun k=>by
 have hm:=h
 simp [Qgo]
 refine xdw l rI 1 (.bool false) rfl (fun i x hx hi K=>?_) fun K=>?_
 ·simp [-getElem?_pos,Qgo_r0,hx,hi,xal (show i<1000000000000000000 by omega)]
 ·simp [Qgo_r0]) k
theorem xwY (l:List ByteArray) (left:Int) (hw:(l.length≤maxLen∧∀y∈l,y.size≤maxLen)) (h2:0≤left) (h3:left≤1048576) (k):call Qah [.one (strs l),.one (I left)] k=k [I (szr ((l.length+xbd ByteArray.size l)) left)]:=xaa (fun k=>by
 simp only [Qah,xay,List.length_map,xbu,xdo hw.1 h2 h3,xao,xah,xau,xap,xaj,xas,true_and,and_true]
 by_cases c:(l.length:Int)≤left
 rotate_left
 ·simp [xbl c,show left-(l.length:Int)<0 by omega]
 simp only [xcC c,show ¬(left-(l.length:Int)<0) by omega,decide_false,Bool.false_eq_true,if_false]
 refine (xl4 (neg:=k [I (-1)]) (fin:=fun t=>k [I t]) l rS 1 ByteArray.size (left-(l.length:Int)) (I 0) (by omega) (by omega) rfl (fun i x hx hi t ht1 ht2 K=>?_) fun t K=>?_).trans ?_
 ·have e:=xdo (left:=t) (hw.2 x (List.mem_of_getElem? hx)) ht1 ht2
  simp [-getElem?_pos,Qah_r0,hx,hi,e,xal (show i<1000000000000000000 by have:=hw.1;omega)]
  by_cases hs:(x.size:Int)≤t
  ·simp [hs,show ¬(t-(x.size:Int)<0) by omega]
  ·simp [hs,show t-(x.size:Int)<0 by omega]
 ·simp [Qah_r0]
 ·by_cases hs:((xbd ByteArray.size l:Nat):Int)≤left-(l.length:Int)
  ·simp [xa7 hs,hs]
  ·simp [xaw hs,hs]) k
theorem xwJ (l:List ByteArray) (h:(l.length+xbd ByteArray.size l)≤1048576) (k):call Qaz [.one (strs l)] k=k [strs l]:=xaa (fun k=>by
 have hm:=h
 simp [Qaz,show l.length<1073741824 by omega]
 refine xf1 l rS rS [.str ⟨#[]⟩] 1 1 (.list 1 []) rfl (fun i x hx hi K rows hr hz=>?_) fun K=>?_
 ·simp [-getElem?_pos,Qaz_r0,hx,hi,hr,hz,over,xal (show i<1000000000000000000 by omega)]
 ·simp [Qaz_r0]) k
theorem xvK (l:List ByteArray) (h:(l.length+xbd ByteArray.size l)≤1048576) (k):call Qgv [.one (strs l),.one (strs l)] k=k [.bool true]:=xaa (fun k=>by
 have hm:=h
 simp [Qgv]
 refine xdw l rS 1 (.bool false) rfl (fun i x hx hi K=>?_) fun K=>?_
 ·simp [-getElem?_pos,Qgv_r0,hx,hi,xal (show i<1000000000000000000 by omega)]
 ·simp [Qgv_r0]) k
structure xb1 where
 Lst:List Int
 Need:Int
abbrev xcS (a:xb1):List PV:=[ints a.Lst,I a.Need]
def xbm (a:xb1):Nat:=a.Lst.length
def xqZ (a:xb1):Prop:=a.Lst.length≤maxLen
theorem xs8 (a:xb1) (left:Int) (hw:xqZ a) (h2:0≤left) (h3:left≤1048576) (k):call Qac [.agg (xcS a),.one (I left)] k=k [I (szr (xbm a) left)]:=xaa (fun k=>by
 have g0:=hw
 unfold xbm
 simp only [Qac,un,cur0,xw1 a.Lst (left) g0 h2 h3,xao,xah,xag,xau,xap,xaj,xas,true_and,and_true]
 by_cases c0:((a.Lst.length:Nat):Int)≤left
 rotate_left
 ·first | (simp [xaw c0,xaw c0];done) | (simp only [xaw c0,xaw c0];simp)
 simp only [xa7 c0,show ¬(left-((a.Lst.length:Nat):Int)<0) by omega,decide_false,Bool.false_eq_true,if_false,xao,xah,xag,xau,xap,xaj,xas,true_and,and_true]) k
theorem xs7 (a:xb1) (h:xbm a≤1048576) (k):call Qat [.agg (xcS a)] k=k (xcS a):=xaa (fun k=>by
 unfold xbm at h
 simp [Qat,xwN a.Lst (by omega)]) k
theorem xsP (a:xb1) (h:xbm a≤1048576) (k):call Qgp [.agg (xcS a),.agg (xcS a)] k=k [.bool true]:=xaa (fun k=>by
 unfold xbm at h
 simp [Qgp,xvN a.Lst (by omega)]) k
structure xfP where
 Key:Int
 Tag:Int
abbrev xcp (a:xfP):List PV:=[I a.Key,I a.Tag]
theorem xtE (r:List PV) (hr:Sh.hasAll [.int .i64,.int .i64] r):∃a:xfP,r=xcp a∧True:=by
 obtain ⟨p1,r1,rfl,h1,hr1⟩:=all_cons hr
 obtain ⟨n1,rfl⟩:=xaE h1
 obtain ⟨p2,rfl,h2⟩:=xcV hr1
 obtain ⟨n2,rfl⟩:=xaE h2
 exact ⟨⟨n1,n2⟩,rfl,trivial⟩
theorem xwL (a:xfP) (k):call Qav [.agg (xcp a)] k=k (xcp a):=xaa (fun k=>by
 simp [Qav]) k
theorem xtX (a:xfP) (k):call Qgr [.agg (xcp a),.agg (xcp a)] k=k [.bool true]:=xaa (fun k=>by
 simp [Qgr]) k
structure xav where
 Label:ByteArray
 Kind:Int
 Value:Int
 Path:List ByteArray
abbrev xaF (a:xav):List PV:=[.str a.Label,I a.Kind,I a.Value,strs a.Path]
def xaz (a:xav):Nat:=a.Label.size+((a.Path.length+xbd ByteArray.size a.Path))
def xlG (a:xav):Prop:=a.Label.size≤maxLen∧(a.Path.length≤maxLen∧∀y∈a.Path,y.size≤maxLen)
theorem xqJ (r:List PV) (hr:Sh.hasAll [.str,.int .i64,.int .i64,.list [.str]] r):∃a:xav,r=xaF a∧xlG a:=by
 obtain ⟨p1,r1,rfl,h1,hr1⟩:=all_cons hr
 obtain ⟨n1,rfl,g1⟩:=xmg h1
 obtain ⟨p2,r2,rfl,h2,hr2⟩:=all_cons hr1
 obtain ⟨n2,rfl⟩:=xaE h2
 obtain ⟨p3,r3,rfl,h3,hr3⟩:=all_cons hr2
 obtain ⟨n3,rfl⟩:=xaE h3
 obtain ⟨p4,rfl,h4⟩:=xcV hr3
 obtain ⟨n4,rfl,g4⟩:=xqv h4
 exact ⟨⟨n1,n2,n3,n4⟩,rfl,⟨g1,g4⟩⟩
theorem xwX (a:xav) (left:Int) (hw:xlG a) (h2:0≤left) (h3:left≤1048576) (k):call Qai [.agg (xaF a),.one (I left)] k=k [I (szr (xaz a) left)]:=xaa (fun k=>by
 obtain ⟨g0,g1⟩:=hw
 unfold xaz
 simp only [Qai,un,cur0,xdy,xbu,xdo (left:=left) g0 h2 h3,xao,xah,xag,xau,xap,xaj,xas,true_and,and_true]
 by_cases c0:((a.Label.size:Nat):Int)≤left
 rotate_left
 ·first | (simp [xbl c0,show left-((a.Label.size:Nat):Int)<0 by omega];done) | (simp only [xbl c0,show left-((a.Label.size:Nat):Int)<0 by omega];simp)
 simp only [xa7 c0,xcC c0,show ¬(left-((a.Label.size:Nat):Int)<0) by omega,decide_false,Bool.false_eq_true,if_false,xwY a.Path (left-((a.Label.size:Nat):Int)) g1 (by omega) (by omega),xao,xah,xag,xau,xap,xaj,xas,true_and,and_true]
 by_cases c1:(((a.Path.length+xbd ByteArray.size a.Path):Nat):Int)≤left-((a.Label.size:Nat):Int)
 rotate_left
 ·first | (simp [xaw c1,xaw c1];done) | (simp only [xaw c1,xaw c1];simp)
 simp only [xa7 c1,show ¬(left-((a.Label.size:Nat):Int)-(((a.Path.length+xbd ByteArray.size a.Path):Nat):Int)<0) by omega,decide_false,Bool.false_eq_true,if_false,xao,xah,xag,xau,xap,xaj,xas,true_and,and_true]) k
theorem xwI (a:xav) (h:xaz a≤1048576) (k):call Qba [.agg (xaF a)] k=k (xaF a):=xaa (fun k=>by
 unfold xaz at h
 simp [Qba,xwJ a.Path (by omega)]) k
theorem xvJ (a:xav) (h:xaz a≤1048576) (k):call Qgw [.agg (xaF a),.agg (xaF a)] k=k [.bool true]:=xaa (fun k=>by
 unfold xaz at h
 simp [Qgw,xvK a.Path (by omega)]) k
structure xcy where
 At:Int
 Path:List Int
abbrev xc7 (a:xcy):List PV:=[I a.At,ints a.Path]
def xbE (a:xcy):Nat:=a.Path.length
structure xkr where
 At:Int
 Before:xav
 After:xav
 Left:xcy
 Right:xcy
abbrev xnb (a:xkr):List PV:=[I a.At,.str a.Before.Label,I a.Before.Kind,I a.Before.Value,strs a.Before.Path,.str a.After.Label,I a.After.Kind,I a.After.Value,strs a.After.Path,I a.Left.At,ints a.Left.Path,I a.Right.At,ints a.Right.Path]
def xhX (a:xkr):Nat:=xaz a.Before+(xaz a.After+(xbE a.Left+(xbE a.Right)))
structure xa8 where
 Zone:Int
 Epoch:Int
 Kind:Int
 Time:Int
 Until:Int
 Count:Int
 Root:Int
 Prev:Int
 Keys:xb1
 Heirs:xb1
 Wait:Int
 Judge:xb1
 Frozen:Bool
abbrev xbt (a:xa8):List PV:=[I a.Zone,I a.Epoch,I a.Kind,I a.Time,I a.Until,I a.Count,I a.Root,I a.Prev,ints a.Keys.Lst,I a.Keys.Need,ints a.Heirs.Lst,I a.Heirs.Need,I a.Wait,ints a.Judge.Lst,I a.Judge.Need,.bool a.Frozen]
def xbB (a:xa8):Nat:=xbm a.Keys+(xbm a.Heirs+(xbm a.Judge))
def xtN (a:xa8):Prop:=xqZ a.Keys∧xqZ a.Heirs∧xqZ a.Judge
theorem xw0 (a:xa8) (left:Int) (hw:xtN a) (h2:0≤left) (h3:left≤1048576) (k):call Qad [.agg (xbt a),.one (I left)] k=k [I (szr (xbB a) left)]:=xaa (fun k=>by
 obtain ⟨g0,g1,g2⟩:=hw
 unfold xbB
 simp only [Qad,un,cur0,xs8 a.Keys (left) g0 h2 h3,xao,xah,xag,xau,xap,xaj,xas,true_and,and_true]
 by_cases c0:((xbm a.Keys:Nat):Int)≤left
 rotate_left
 ·first | (simp [xbl c0,xaw c0];done) | (simp only [xbl c0,xaw c0];simp)
 simp only [xa7 c0,xcC c0,show ¬(left-((xbm a.Keys:Nat):Int)<0) by omega,decide_false,Bool.false_eq_true,if_false,xs8 a.Heirs (left-((xbm a.Keys:Nat):Int)) g1 (by omega) (by omega),xao,xah,xag,xau,xap,xaj,xas,true_and,and_true]
 by_cases c1:((xbm a.Heirs:Nat):Int)≤left-((xbm a.Keys:Nat):Int)
 rotate_left
 ·first | (simp [xbl c1,xaw c1];done) | (simp only [xbl c1,xaw c1];simp)
 simp only [xa7 c1,xcC c1,show ¬(left-((xbm a.Keys:Nat):Int)-((xbm a.Heirs:Nat):Int)<0) by omega,decide_false,Bool.false_eq_true,if_false,xs8 a.Judge (left-((xbm a.Keys:Nat):Int)-((xbm a.Heirs:Nat):Int)) g2 (by omega) (by omega),xao,xah,xag,xau,xap,xaj,xas,true_and,and_true]
 by_cases c2:((xbm a.Judge:Nat):Int)≤left-((xbm a.Keys:Nat):Int)-((xbm a.Heirs:Nat):Int)
 rotate_left
 ·first | (simp [xaw c2,xaw c2];done) | (simp only [xaw c2,xaw c2];simp)
 simp only [xa7 c2,show ¬(left-((xbm a.Keys:Nat):Int)-((xbm a.Heirs:Nat):Int)-((xbm a.Judge:Nat):Int)<0) by omega,decide_false,Bool.false_eq_true,if_false,xao,xah,xag,xau,xap,xaj,xas,true_and,and_true]) k
theorem xwM (a:xa8) (h:xbB a≤1048576) (k):call Qau [.agg (xbt a)] k=k (xbt a):=xaa (fun k=>by
 unfold xbB at h
 simp [Qau,xs7 a.Keys (by omega),xs7 a.Heirs (by omega),xs7 a.Judge (by omega)]) k
theorem xvM (a:xa8) (h:xbB a≤1048576) (k):call Qgq [.agg (xbt a),.agg (xbt a)] k=k [.bool true]:=xaa (fun k=>by
 unfold xbB at h
 simp [Qgq,xsP a.Keys (by omega),xsP a.Heirs (by omega),xsP a.Judge (by omega)]) k
theorem xkf {p:PV} (h:Sh.has (.list [.int .i64,.int .i64]) p):∃l:List xfP,p=.list 2 (l.map xcp)∧l.length≤maxLen:=by
 obtain ⟨l,h1,h2,h3⟩:=xeo xtE 2 rfl h
 exact ⟨l,h1,h2⟩
theorem xwZ (l:List xfP) (left:Int) (hw:l.length≤maxLen) (h2:0≤left) (h3:left≤1048576) (k):call Qae [.one (.list 2 (l.map xcp)),.one (I left)] k=k [I (szr l.length left)]:=xaa (fun k=>by
 simp only [Qae,xay,List.length_map,xbu,xdo hw h2 h3,xao,xah,xau,xap,xaj,xas,true_and,and_true]
 by_cases c:(l.length:Int)≤left
 ·simp [xa7 c,show ¬(left-(l.length:Int)<0) by omega]
 ·simp [xaw c,show left-(l.length:Int)<0 by omega]) k
theorem xwK (l:List xfP) (h:l.length≤1048576) (k):call Qaw [.one (.list 2 (l.map xcp))] k=k [.list 2 (l.map xcp)]:=xaa (fun k=>by
 have hm:=h
 simp [Qaw,show l.length<1073741824 by omega]
 refine xf1 l xcp xcp [I 0,I 0] 2 2 (.list 2 []) rfl (fun i x hx hi K rows hr hz=>?_) fun K=>?_
 ·simp [-getElem?_pos,Qaw_r0,hx,hi,hr,hz,over,xwL x,xal (show i<1000000000000000000 by omega)]
 ·simp [Qaw_r0]) k
theorem xvL (l:List xfP) (h:l.length≤1048576) (k):call Qgs [.one (.list 2 (l.map xcp)),.one (.list 2 (l.map xcp))] k=k [.bool true]:=xaa (fun k=>by
 have hm:=h
 simp [Qgs]
 refine xdw l xcp 2 (.bool false) rfl (fun i x hx hi K=>?_) fun K=>?_
 ·simp [-getElem?_pos,Qgs_r0,hx,hi,xtX x,xal (show i<1000000000000000000 by omega)]
 ·simp [Qgs_r0]) k
structure xaf where
 Head:xa8
 Sigs:List xfP
abbrev xam (a:xaf):List PV:=[I a.Head.Zone,I a.Head.Epoch,I a.Head.Kind,I a.Head.Time,I a.Head.Until,I a.Head.Count,I a.Head.Root,I a.Head.Prev,ints a.Head.Keys.Lst,I a.Head.Keys.Need,ints a.Head.Heirs.Lst,I a.Head.Heirs.Need,I a.Head.Wait,ints a.Head.Judge.Lst,I a.Head.Judge.Need,.bool a.Head.Frozen,.list 2 (a.Sigs.map xcp)]
def xar (a:xaf):Nat:=xbB a.Head+(a.Sigs.length)
def xdc (a:xaf):Prop:=xtN a.Head∧a.Sigs.length≤maxLen
theorem xpi (r:List PV) (hr:Sh.hasAll [.int .i64,.int .i64,.int .i64,.int .i64,.int .i64,.int .i64,.int .i64,.int .i64,.list [.int .i64],.int .i64,.list [.int .i64],.int .i64,.int .i64,.list [.int .i64],.int .i64,.bool,.list [.int .i64,.int .i64]] r):∃a:xaf,r=xam a∧xdc a:=by
 obtain ⟨p1,r1,rfl,h1,hr1⟩:=all_cons hr
 obtain ⟨n1,rfl⟩:=xaE h1
 obtain ⟨p2,r2,rfl,h2,hr2⟩:=all_cons hr1
 obtain ⟨n2,rfl⟩:=xaE h2
 obtain ⟨p3,r3,rfl,h3,hr3⟩:=all_cons hr2
 obtain ⟨n3,rfl⟩:=xaE h3
 obtain ⟨p4,r4,rfl,h4,hr4⟩:=all_cons hr3
 obtain ⟨n4,rfl⟩:=xaE h4
 obtain ⟨p5,r5,rfl,h5,hr5⟩:=all_cons hr4
 obtain ⟨n5,rfl⟩:=xaE h5
 obtain ⟨p6,r6,rfl,h6,hr6⟩:=all_cons hr5
 obtain ⟨n6,rfl⟩:=xaE h6
 obtain ⟨p7,r7,rfl,h7,hr7⟩:=all_cons hr6
 obtain ⟨n7,rfl⟩:=xaE h7
 obtain ⟨p8,r8,rfl,h8,hr8⟩:=all_cons hr7
 obtain ⟨n8,rfl⟩:=xaE h8
 obtain ⟨p9,r9,rfl,h9,hr9⟩:=all_cons hr8
 obtain ⟨n9,rfl,g9⟩:=xcA h9
 obtain ⟨p10,r10,rfl,h10,hr10⟩:=all_cons hr9
 obtain ⟨n10,rfl⟩:=xaE h10
 obtain ⟨p11,r11,rfl,h11,hr11⟩:=all_cons hr10
 obtain ⟨n11,rfl,g11⟩:=xcA h11
 obtain ⟨p12,r12,rfl,h12,hr12⟩:=all_cons hr11
 obtain ⟨n12,rfl⟩:=xaE h12
 obtain ⟨p13,r13,rfl,h13,hr13⟩:=all_cons hr12
 obtain ⟨n13,rfl⟩:=xaE h13
 obtain ⟨p14,r14,rfl,h14,hr14⟩:=all_cons hr13
 obtain ⟨n14,rfl,g14⟩:=xcA h14
 obtain ⟨p15,r15,rfl,h15,hr15⟩:=all_cons hr14
 obtain ⟨n15,rfl⟩:=xaE h15
 obtain ⟨p16,r16,rfl,h16,hr16⟩:=all_cons hr15
 obtain ⟨n16,rfl⟩:=xhj h16
 obtain ⟨p17,rfl,h17⟩:=xcV hr16
 obtain ⟨n17,rfl,g17⟩:=xkf h17
 exact ⟨⟨⟨n1,n2,n3,n4,n5,n6,n7,n8,⟨n9,n10⟩,⟨n11,n12⟩,n13,⟨n14,n15⟩,n16⟩,n17⟩,rfl,⟨⟨g9,g11,g14⟩,g17⟩⟩
theorem xrl (a:xaf) (left:Int) (hw:xdc a) (h2:0≤left) (h3:left≤1048576) (k):call Qaf [.agg (xam a),.one (I left)] k=k [I (szr (xar a) left)]:=xaa (fun k=>by
 obtain ⟨g0,g1⟩:=hw
 unfold xar
 simp only [Qaf,un,cur0,xw0 a.Head (left) g0 h2 h3,xao,xah,xag,xau,xap,xaj,xas,true_and,and_true]
 by_cases c0:((xbB a.Head:Nat):Int)≤left
 rotate_left
 ·first | (simp [xbl c0,xaw c0];done) | (simp only [xbl c0,xaw c0];simp)
 simp only [xa7 c0,xcC c0,show ¬(left-((xbB a.Head:Nat):Int)<0) by omega,decide_false,Bool.false_eq_true,if_false,xwZ a.Sigs (left-((xbB a.Head:Nat):Int)) g1 (by omega) (by omega),xao,xah,xag,xau,xap,xaj,xas,true_and,and_true]
 by_cases c1:((a.Sigs.length:Nat):Int)≤left-((xbB a.Head:Nat):Int)
 rotate_left
 ·first | (simp [xaw c1,xaw c1];done) | (simp only [xaw c1,xaw c1];simp)
 simp only [xa7 c1,show ¬(left-((xbB a.Head:Nat):Int)-((a.Sigs.length:Nat):Int)<0) by omega,decide_false,Bool.false_eq_true,if_false,xao,xah,xag,xau,xap,xaj,xas,true_and,and_true]) k
theorem xrk (a:xaf) (h:xar a≤1048576) (k):call Qax [.agg (xam a)] k=k (xam a):=xaa (fun k=>by
 unfold xar at h
 simp [Qax,xwM a.Head (by omega),xwK a.Sigs (by omega)]) k
theorem xq6 (a:xaf) (h:xar a≤1048576) (k):call Qgt [.agg (xam a),.agg (xam a)] k=k [.bool true]:=xaa (fun k=>by
 unfold xar at h
 simp [Qgt,xvM a.Head (by omega),xvL a.Sigs (by omega)]) k
structure xcb where
 Before:xaf
 A:xaf
 B:xaf
abbrev xbk (a:xcb):List PV:=[I a.Before.Head.Zone,I a.Before.Head.Epoch,I a.Before.Head.Kind,I a.Before.Head.Time,I a.Before.Head.Until,I a.Before.Head.Count,I a.Before.Head.Root,I a.Before.Head.Prev,ints a.Before.Head.Keys.Lst,I a.Before.Head.Keys.Need,ints a.Before.Head.Heirs.Lst,I a.Before.Head.Heirs.Need,I a.Before.Head.Wait,ints a.Before.Head.Judge.Lst,I a.Before.Head.Judge.Need,.bool a.Before.Head.Frozen,.list 2 (a.Before.Sigs.map xcp),I a.A.Head.Zone,I a.A.Head.Epoch,I a.A.Head.Kind,I a.A.Head.Time,I a.A.Head.Until,I a.A.Head.Count,I a.A.Head.Root,I a.A.Head.Prev,ints a.A.Head.Keys.Lst,I a.A.Head.Keys.Need,ints a.A.Head.Heirs.Lst,I a.A.Head.Heirs.Need,I a.A.Head.Wait,ints a.A.Head.Judge.Lst,I a.A.Head.Judge.Need,.bool a.A.Head.Frozen,.list 2 (a.A.Sigs.map xcp),I a.B.Head.Zone,I a.B.Head.Epoch,I a.B.Head.Kind,I a.B.Head.Time,I a.B.Head.Until,I a.B.Head.Count,I a.B.Head.Root,I a.B.Head.Prev,ints a.B.Head.Keys.Lst,I a.B.Head.Keys.Need,ints a.B.Head.Heirs.Lst,I a.B.Head.Heirs.Need,I a.B.Head.Wait,ints a.B.Head.Judge.Lst,I a.B.Head.Judge.Need,.bool a.B.Head.Frozen,.list 2 (a.B.Sigs.map xcp)]
def xcu (a:xcb):Nat:=xar a.Before+(xar a.A+(xar a.B))
def xpH (a:xcb):Prop:=xdc a.Before∧xdc a.A∧xdc a.B
theorem xso (r:List PV) (hr:Sh.hasAll [.int .i64,.int .i64,.int .i64,.int .i64,.int .i64,.int .i64,.int .i64,.int .i64,.list [.int .i64],.int .i64,.list [.int .i64],.int .i64,.int .i64,.list [.int .i64],.int .i64,.bool,.list [.int .i64,.int .i64],.int .i64,.int .i64,.int .i64,.int .i64,.int .i64,.int .i64,.int .i64,.int .i64,.list [.int .i64],.int .i64,.list [.int .i64],.int .i64,.int .i64,.list [.int .i64],.int .i64,.bool,.list [.int .i64,.int .i64],.int .i64,.int .i64,.int .i64,.int .i64,.int .i64,.int .i64,.int .i64,.int .i64,.list [.int .i64],.int .i64,.list [.int .i64],.int .i64,.int .i64,.list [.int .i64],.int .i64,.bool,.list [.int .i64,.int .i64]] r):∃a:xcb,r=xbk a∧xpH a:=by
 obtain ⟨p1,r1,rfl,h1,hr1⟩:=all_cons hr
 obtain ⟨n1,rfl⟩:=xaE h1
 obtain ⟨p2,r2,rfl,h2,hr2⟩:=all_cons hr1
 obtain ⟨n2,rfl⟩:=xaE h2
 obtain ⟨p3,r3,rfl,h3,hr3⟩:=all_cons hr2
 obtain ⟨n3,rfl⟩:=xaE h3
 obtain ⟨p4,r4,rfl,h4,hr4⟩:=all_cons hr3
 obtain ⟨n4,rfl⟩:=xaE h4
 obtain ⟨p5,r5,rfl,h5,hr5⟩:=all_cons hr4
 obtain ⟨n5,rfl⟩:=xaE h5
 obtain ⟨p6,r6,rfl,h6,hr6⟩:=all_cons hr5
 obtain ⟨n6,rfl⟩:=xaE h6
 obtain ⟨p7,r7,rfl,h7,hr7⟩:=all_cons hr6
 obtain ⟨n7,rfl⟩:=xaE h7
 obtain ⟨p8,r8,rfl,h8,hr8⟩:=all_cons hr7
 obtain ⟨n8,rfl⟩:=xaE h8
 obtain ⟨p9,r9,rfl,h9,hr9⟩:=all_cons hr8
 obtain ⟨n9,rfl,g9⟩:=xcA h9
 obtain ⟨p10,r10,rfl,h10,hr10⟩:=all_cons hr9
 obtain ⟨n10,rfl⟩:=xaE h10
 obtain ⟨p11,r11,rfl,h11,hr11⟩:=all_cons hr10
 obtain ⟨n11,rfl,g11⟩:=xcA h11
 obtain ⟨p12,r12,rfl,h12,hr12⟩:=all_cons hr11
 obtain ⟨n12,rfl⟩:=xaE h12
 obtain ⟨p13,r13,rfl,h13,hr13⟩:=all_cons hr12
 obtain ⟨n13,rfl⟩:=xaE h13
 obtain ⟨p14,r14,rfl,h14,hr14⟩:=all_cons hr13
 obtain ⟨n14,rfl,g14⟩:=xcA h14
 obtain ⟨p15,r15,rfl,h15,hr15⟩:=all_cons hr14
 obtain ⟨n15,rfl⟩:=xaE h15
 obtain ⟨p16,r16,rfl,h16,hr16⟩:=all_cons hr15
 obtain ⟨n16,rfl⟩:=xhj h16
 obtain ⟨p17,r17,rfl,h17,hr17⟩:=all_cons hr16
 obtain ⟨n17,rfl,g17⟩:=xkf h17
 obtain ⟨p18,r18,rfl,h18,hr18⟩:=all_cons hr17
 obtain ⟨n18,rfl⟩:=xaE h18
 obtain ⟨p19,r19,rfl,h19,hr19⟩:=all_cons hr18
 obtain ⟨n19,rfl⟩:=xaE h19
 obtain ⟨p20,r20,rfl,h20,hr20⟩:=all_cons hr19
 obtain ⟨n20,rfl⟩:=xaE h20
 obtain ⟨p21,r21,rfl,h21,hr21⟩:=all_cons hr20
 obtain ⟨n21,rfl⟩:=xaE h21
 obtain ⟨p22,r22,rfl,h22,hr22⟩:=all_cons hr21
 obtain ⟨n22,rfl⟩:=xaE h22
 obtain ⟨p23,r23,rfl,h23,hr23⟩:=all_cons hr22
 obtain ⟨n23,rfl⟩:=xaE h23
 obtain ⟨p24,r24,rfl,h24,hr24⟩:=all_cons hr23
 obtain ⟨n24,rfl⟩:=xaE h24
 obtain ⟨p25,r25,rfl,h25,hr25⟩:=all_cons hr24
 obtain ⟨n25,rfl⟩:=xaE h25
 obtain ⟨p26,r26,rfl,h26,hr26⟩:=all_cons hr25
 obtain ⟨n26,rfl,g26⟩:=xcA h26
 obtain ⟨p27,r27,rfl,h27,hr27⟩:=all_cons hr26
 obtain ⟨n27,rfl⟩:=xaE h27
 obtain ⟨p28,r28,rfl,h28,hr28⟩:=all_cons hr27
 obtain ⟨n28,rfl,g28⟩:=xcA h28
 obtain ⟨p29,r29,rfl,h29,hr29⟩:=all_cons hr28
 obtain ⟨n29,rfl⟩:=xaE h29
 obtain ⟨p30,r30,rfl,h30,hr30⟩:=all_cons hr29
 obtain ⟨n30,rfl⟩:=xaE h30
 obtain ⟨p31,r31,rfl,h31,hr31⟩:=all_cons hr30
 obtain ⟨n31,rfl,g31⟩:=xcA h31
 obtain ⟨p32,r32,rfl,h32,hr32⟩:=all_cons hr31
 obtain ⟨n32,rfl⟩:=xaE h32
 obtain ⟨p33,r33,rfl,h33,hr33⟩:=all_cons hr32
 obtain ⟨n33,rfl⟩:=xhj h33
 obtain ⟨p34,r34,rfl,h34,hr34⟩:=all_cons hr33
 obtain ⟨n34,rfl,g34⟩:=xkf h34
 obtain ⟨p35,r35,rfl,h35,hr35⟩:=all_cons hr34
 obtain ⟨n35,rfl⟩:=xaE h35
 obtain ⟨p36,r36,rfl,h36,hr36⟩:=all_cons hr35
 obtain ⟨n36,rfl⟩:=xaE h36
 obtain ⟨p37,r37,rfl,h37,hr37⟩:=all_cons hr36
 obtain ⟨n37,rfl⟩:=xaE h37
 obtain ⟨p38,r38,rfl,h38,hr38⟩:=all_cons hr37
 obtain ⟨n38,rfl⟩:=xaE h38
 obtain ⟨p39,r39,rfl,h39,hr39⟩:=all_cons hr38
 obtain ⟨n39,rfl⟩:=xaE h39
 obtain ⟨p40,r40,rfl,h40,hr40⟩:=all_cons hr39
 obtain ⟨n40,rfl⟩:=xaE h40
 obtain ⟨p41,r41,rfl,h41,hr41⟩:=all_cons hr40
 obtain ⟨n41,rfl⟩:=xaE h41
 obtain ⟨p42,r42,rfl,h42,hr42⟩:=all_cons hr41
 obtain ⟨n42,rfl⟩:=xaE h42
 obtain ⟨p43,r43,rfl,h43,hr43⟩:=all_cons hr42
 obtain ⟨n43,rfl,g43⟩:=xcA h43
 obtain ⟨p44,r44,rfl,h44,hr44⟩:=all_cons hr43
 obtain ⟨n44,rfl⟩:=xaE h44
 obtain ⟨p45,r45,rfl,h45,hr45⟩:=all_cons hr44
 obtain ⟨n45,rfl,g45⟩:=xcA h45
 obtain ⟨p46,r46,rfl,h46,hr46⟩:=all_cons hr45
 obtain ⟨n46,rfl⟩:=xaE h46
 obtain ⟨p47,r47,rfl,h47,hr47⟩:=all_cons hr46
 obtain ⟨n47,rfl⟩:=xaE h47
 obtain ⟨p48,r48,rfl,h48,hr48⟩:=all_cons hr47
 obtain ⟨n48,rfl,g48⟩:=xcA h48
 obtain ⟨p49,r49,rfl,h49,hr49⟩:=all_cons hr48
 obtain ⟨n49,rfl⟩:=xaE h49
 obtain ⟨p50,r50,rfl,h50,hr50⟩:=all_cons hr49
 obtain ⟨n50,rfl⟩:=xhj h50
 obtain ⟨p51,rfl,h51⟩:=xcV hr50
 obtain ⟨n51,rfl,g51⟩:=xkf h51
 exact ⟨⟨⟨⟨n1,n2,n3,n4,n5,n6,n7,n8,⟨n9,n10⟩,⟨n11,n12⟩,n13,⟨n14,n15⟩,n16⟩,n17⟩,⟨⟨n18,n19,n20,n21,n22,n23,n24,n25,⟨n26,n27⟩,⟨n28,n29⟩,n30,⟨n31,n32⟩,n33⟩,n34⟩,⟨⟨n35,n36,n37,n38,n39,n40,n41,n42,⟨n43,n44⟩,⟨n45,n46⟩,n47,⟨n48,n49⟩,n50⟩,n51⟩⟩,rfl,⟨⟨⟨g9,g11,g14⟩,g17⟩,⟨⟨g26,g28,g31⟩,g34⟩,⟨⟨g43,g45,g48⟩,g51⟩⟩⟩
theorem xwQ (a:xcb) (left:Int) (hw:xpH a) (h2:0≤left) (h3:left≤1048576) (k):call Qap [.agg (xbk a),.one (I left)] k=k [I (szr (xcu a) left)]:=xaa (fun k=>by
 obtain ⟨g0,g1,g2⟩:=hw
 unfold xcu
 simp only [Qap,un,cur0,xrl a.Before (left) g0 h2 h3,xao,xah,xag,xau,xap,xaj,xas,true_and,and_true]
 by_cases c0:((xar a.Before:Nat):Int)≤left
 rotate_left
 ·first | (simp [xbl c0,xaw c0];done) | (simp only [xbl c0,xaw c0];simp)
 simp only [xa7 c0,xcC c0,show ¬(left-((xar a.Before:Nat):Int)<0) by omega,decide_false,Bool.false_eq_true,if_false,xrl a.A (left-((xar a.Before:Nat):Int)) g1 (by omega) (by omega),xao,xah,xag,xau,xap,xaj,xas,true_and,and_true]
 by_cases c1:((xar a.A:Nat):Int)≤left-((xar a.Before:Nat):Int)
 rotate_left
 ·first | (simp [xbl c1,xaw c1];done) | (simp only [xbl c1,xaw c1];simp)
 simp only [xa7 c1,xcC c1,show ¬(left-((xar a.Before:Nat):Int)-((xar a.A:Nat):Int)<0) by omega,decide_false,Bool.false_eq_true,if_false,xrl a.B (left-((xar a.Before:Nat):Int)-((xar a.A:Nat):Int)) g2 (by omega) (by omega),xao,xah,xag,xau,xap,xaj,xas,true_and,and_true]
 by_cases c2:((xar a.B:Nat):Int)≤left-((xar a.Before:Nat):Int)-((xar a.A:Nat):Int)
 rotate_left
 ·first | (simp [xaw c2,xaw c2];done) | (simp only [xaw c2,xaw c2];simp)
 simp only [xa7 c2,show ¬(left-((xar a.Before:Nat):Int)-((xar a.A:Nat):Int)-((xar a.B:Nat):Int)<0) by omega,decide_false,Bool.false_eq_true,if_false,xao,xah,xag,xau,xap,xaj,xas,true_and,and_true]) k
theorem xwB (a:xcb) (h:xcu a≤1048576) (k):call Qbh [.agg (xbk a)] k=k (xbk a):=xaa (fun k=>by
 unfold xcu at h
 simp [Qbh,xrk a.Before (by omega),xrk a.A (by omega),xrk a.B (by omega)]) k
theorem xvC (a:xcb) (h:xcu a≤1048576) (k):call Qhd [.agg (xbk a),.agg (xbk a)] k=k [.bool true]:=xaa (fun k=>by
 unfold xcu at h
 simp [Qhd,xq6 a.Before (by omega),xq6 a.A (by omega),xq6 a.B (by omega)]) k
def xan (l:List xaf):Nat:=l.length+xbd xar l
theorem xjz {p:PV} (h:Sh.has (.list [.int .i64,.int .i64,.int .i64,.int .i64,.int .i64,.int .i64,.int .i64,.int .i64,.list [.int .i64],.int .i64,.list [.int .i64],.int .i64,.int .i64,.list [.int .i64],.int .i64,.bool,.list [.int .i64,.int .i64]]) p):∃l:List xaf,p=.list 17 (l.map xam)∧(l.length≤maxLen∧∀y∈l,xdc y):=by
 obtain ⟨l,h1,h2,h3⟩:=xeo xpi 17 rfl h
 exact ⟨l,h1,h2,h3⟩
theorem xun (l:List xaf) (left:Int) (hw:(l.length≤maxLen∧∀y∈l,xdc y)) (h2:0≤left) (h3:left≤1048576) (k):call Qag [.one (.list 17 (l.map xam)),.one (I left)] k=k [I (szr (xan l) left)]:=xaa (fun k=>by
 simp only [Qag,xay,List.length_map,xbu,xdo hw.1 h2 h3,xao,xah,xau,xap,xaj,xas,true_and,and_true]
 unfold xan
 by_cases c:(l.length:Int)≤left
 rotate_left
 ·simp [xbl c,show left-(l.length:Int)<0 by omega]
 simp only [xcC c,show ¬(left-(l.length:Int)<0) by omega,decide_false,Bool.false_eq_true,if_false]
 refine (xl4 (neg:=k [I (-1)]) (fin:=fun t=>k [I t]) l xam 17 xar (left-(l.length:Int)) (I 0) (by omega) (by omega) rfl (fun i x hx hi t ht1 ht2 K=>?_) fun t K=>?_).trans ?_
 ·have e:=xrl x t (hw.2 x (List.mem_of_getElem? hx)) ht1 ht2
  simp [-getElem?_pos,Qag_r0,hx,hi,e,xal (show i<1000000000000000000 by omega)]
  by_cases hs:((xar x:Nat):Int)≤t
  ·simp [xa7 hs,hs,show ¬(t-((xar x:Nat):Int)<0) by omega]
  ·simp [xaw hs,hs]
 ·simp [Qag_r0]
 ·by_cases hs:((xbd xar l:Nat):Int)≤left-(l.length:Int)
  ·simp [xa7 hs,hs]
  ·simp [xaw hs,hs]) k
theorem xum (l:List xaf) (h:xan l≤1048576) (k):call Qay [.one (.list 17 (l.map xam))] k=k [.list 17 (l.map xam)]:=xaa (fun k=>by
 have hm:=h
 unfold xan at hm
 simp [Qay,show l.length<1073741824 by omega]
 refine xf1 l xam xam [I 0,I 0,I 0,I 0,I 0,I 0,I 0,I 0,.list 1 [],I 0,.list 1 [],I 0,I 0,.list 1 [],I 0,.bool false,.list 2 []] 17 17 (.list 17 []) rfl (fun i x hx hi K rows hr hz=>?_) fun K=>?_
 ·have hs:xar x≤xbd xar l:=xaZ (s:=xar) (List.mem_of_getElem? hx)
  simp [-getElem?_pos,Qay_r0,hx,hi,hr,hz,over,xrk x (by omega),xal (show i<1000000000000000000 by omega)]
 ·simp [Qay_r0]) k
theorem xtW (l:List xaf) (h:xan l≤1048576) (k):call Qgu [.one (.list 17 (l.map xam)),.one (.list 17 (l.map xam))] k=k [.bool true]:=xaa (fun k=>by
 have hm:=h
 unfold xan at hm
 simp [Qgu]
 refine xdw l xam 17 (.bool false) rfl (fun i x hx hi K=>?_) fun K=>?_
 ·have hs:xar x≤xbd xar l:=xaZ (s:=xar) (List.mem_of_getElem? hx)
  simp [-getElem?_pos,Qgu_r0,hx,hi,xq6 x (by omega),xal (show i<1000000000000000000 by omega)]
 ·simp [Qgu_r0]) k
def xbh (l:List xav):Nat:=l.length+xbd xaz l
theorem xpk {p:PV} (h:Sh.has (.list [.str,.int .i64,.int .i64,.list [.str]]) p):∃l:List xav,p=.list 4 (l.map xaF)∧(l.length≤maxLen∧∀y∈l,xlG y):=by
 obtain ⟨l,h1,h2,h3⟩:=xeo xqJ 4 rfl h
 exact ⟨l,h1,h2,h3⟩
theorem xwW (l:List xav) (left:Int) (hw:(l.length≤maxLen∧∀y∈l,xlG y)) (h2:0≤left) (h3:left≤1048576) (k):call Qaj [.one (.list 4 (l.map xaF)),.one (I left)] k=k [I (szr (xbh l) left)]:=xaa (fun k=>by
 simp only [Qaj,xay,List.length_map,xbu,xdo hw.1 h2 h3,xao,xah,xau,xap,xaj,xas,true_and,and_true]
 unfold xbh
 by_cases c:(l.length:Int)≤left
 rotate_left
 ·simp [xbl c,show left-(l.length:Int)<0 by omega]
 simp only [xcC c,show ¬(left-(l.length:Int)<0) by omega,decide_false,Bool.false_eq_true,if_false]
 refine (xl4 (neg:=k [I (-1)]) (fin:=fun t=>k [I t]) l xaF 4 xaz (left-(l.length:Int)) (I 0) (by omega) (by omega) rfl (fun i x hx hi t ht1 ht2 K=>?_) fun t K=>?_).trans ?_
 ·have e:=xwX x t (hw.2 x (List.mem_of_getElem? hx)) ht1 ht2
  simp [-getElem?_pos,Qaj_r0,hx,hi,e,xal (show i<1000000000000000000 by omega)]
  by_cases hs:((xaz x:Nat):Int)≤t
  ·simp [xa7 hs,hs,show ¬(t-((xaz x:Nat):Int)<0) by omega]
  ·simp [xaw hs,hs]
 ·simp [Qaj_r0]
 ·by_cases hs:((xbd xaz l:Nat):Int)≤left-(l.length:Int)
  ·simp [xa7 hs,hs]
  ·simp [xaw hs,hs]) k
theorem xwH (l:List xav) (h:xbh l≤1048576) (k):call Qbb [.one (.list 4 (l.map xaF))] k=k [.list 4 (l.map xaF)]:=xaa (fun k=>by
 have hm:=h
 unfold xbh at hm
 simp [Qbb,show l.length<1073741824 by omega]
 refine xf1 l xaF xaF [.str ⟨#[]⟩,I 0,I 0,.list 1 []] 4 4 (.list 4 []) rfl (fun i x hx hi K rows hr hz=>?_) fun K=>?_
 ·have hs:xaz x≤xbd xaz l:=xaZ (s:=xaz) (List.mem_of_getElem? hx)
  simp [-getElem?_pos,Qbb_r0,hx,hi,hr,hz,over,xwI x (by omega),xal (show i<1000000000000000000 by omega)]
 ·simp [Qbb_r0]) k
theorem xvI (l:List xav) (h:xbh l≤1048576) (k):call Qgx [.one (.list 4 (l.map xaF)),.one (.list 4 (l.map xaF))] k=k [.bool true]:=xaa (fun k=>by
 have hm:=h
 unfold xbh at hm
 simp [Qgx]
 refine xdw l xaF 4 (.bool false) rfl (fun i x hx hi K=>?_) fun K=>?_
 ·have hs:xaz x≤xbd xaz l:=xaZ (s:=xaz) (List.mem_of_getElem? hx)
  simp [-getElem?_pos,Qgx_r0,hx,hi,xvJ x (by omega),xal (show i<1000000000000000000 by omega)]
 ·simp [Qgx_r0]) k
structure xb4 where
 Chain:List xaf
 Entries:List xav
abbrev xcx (a:xb4):List PV:=[.list 17 (a.Chain.map xam),.list 4 (a.Entries.map xaF)]
def xbZ (a:xb4):Nat:=xan a.Chain+(xbh a.Entries)
def xpG (a:xb4):Prop:=(a.Chain.length≤maxLen∧∀y∈a.Chain,xdc y)∧(a.Entries.length≤maxLen∧∀y∈a.Entries,xlG y)
theorem xsn (r:List PV) (hr:Sh.hasAll [.list [.int .i64,.int .i64,.int .i64,.int .i64,.int .i64,.int .i64,.int .i64,.int .i64,.list [.int .i64],.int .i64,.list [.int .i64],.int .i64,.int .i64,.list [.int .i64],.int .i64,.bool,.list [.int .i64,.int .i64]],.list [.str,.int .i64,.int .i64,.list [.str]]] r):∃a:xb4,r=xcx a∧xpG a:=by
 obtain ⟨p1,r1,rfl,h1,hr1⟩:=all_cons hr
 obtain ⟨n1,rfl,g1⟩:=xjz h1
 obtain ⟨p2,rfl,h2⟩:=xcV hr1
 obtain ⟨n2,rfl,g2⟩:=xpk h2
 exact ⟨⟨n1,n2⟩,rfl,⟨g1,g2⟩⟩
theorem xwV (a:xb4) (left:Int) (hw:xpG a) (h2:0≤left) (h3:left≤1048576) (k):call Qak [.agg (xcx a),.one (I left)] k=k [I (szr (xbZ a) left)]:=xaa (fun k=>by
 obtain ⟨g0,g1⟩:=hw
 unfold xbZ
 simp only [Qak,un,cur0,xun a.Chain (left) g0 h2 h3,xao,xah,xag,xau,xap,xaj,xas,true_and,and_true]
 by_cases c0:((xan a.Chain:Nat):Int)≤left
 rotate_left
 ·first | (simp [xbl c0,xaw c0];done) | (simp only [xbl c0,xaw c0];simp)
 simp only [xa7 c0,xcC c0,show ¬(left-((xan a.Chain:Nat):Int)<0) by omega,decide_false,Bool.false_eq_true,if_false,xwW a.Entries (left-((xan a.Chain:Nat):Int)) g1 (by omega) (by omega),xao,xah,xag,xau,xap,xaj,xas,true_and,and_true]
 by_cases c1:((xbh a.Entries:Nat):Int)≤left-((xan a.Chain:Nat):Int)
 rotate_left
 ·first | (simp [xaw c1,xaw c1];done) | (simp only [xaw c1,xaw c1];simp)
 simp only [xa7 c1,show ¬(left-((xan a.Chain:Nat):Int)-((xbh a.Entries:Nat):Int)<0) by omega,decide_false,Bool.false_eq_true,if_false,xao,xah,xag,xau,xap,xaj,xas,true_and,and_true]) k
theorem xwG (a:xb4) (h:xbZ a≤1048576) (k):call Qbc [.agg (xcx a)] k=k (xcx a):=xaa (fun k=>by
 unfold xbZ at h
 simp [Qbc,xum a.Chain (by omega),xwH a.Entries (by omega)]) k
theorem xvH (a:xb4) (h:xbZ a≤1048576) (k):call Qgy [.agg (xcx a),.agg (xcx a)] k=k [.bool true]:=xaa (fun k=>by
 unfold xbZ at h
 simp [Qgy,xtW a.Chain (by omega),xvI a.Entries (by omega)]) k
structure xaJ where
 Chain:List xaf
 Found:Bool
 Entry:xav
 Proof:xcy
 Gap:xkr
abbrev xax (a:xaJ):List PV:=[.list 17 (a.Chain.map xam),.bool a.Found,.str a.Entry.Label,I a.Entry.Kind,I a.Entry.Value,strs a.Entry.Path,I a.Proof.At,ints a.Proof.Path,I a.Gap.At,.str a.Gap.Before.Label,I a.Gap.Before.Kind,I a.Gap.Before.Value,strs a.Gap.Before.Path,.str a.Gap.After.Label,I a.Gap.After.Kind,I a.Gap.After.Value,strs a.Gap.After.Path,I a.Gap.Left.At,ints a.Gap.Left.Path,I a.Gap.Right.At,ints a.Gap.Right.Path]
def xbn (a:xaJ):Nat:=xan a.Chain+(xaz a.Entry+(xbE a.Proof+(xhX a.Gap)))
def xbw (l:List (List xaf)):Nat:=l.length+xbd xan l
theorem xmo {p:PV} (h:Sh.has (.list [.list [.int .i64,.int .i64,.int .i64,.int .i64,.int .i64,.int .i64,.int .i64,.int .i64,.list [.int .i64],.int .i64,.list [.int .i64],.int .i64,.int .i64,.list [.int .i64],.int .i64,.bool,.list [.int .i64,.int .i64]]]) p):∃l:List (List xaf),p=.list 1 (l.map (fun l:List xaf=>[.list 17 (l.map xam)]))∧(l.length≤maxLen∧∀y∈l,(y.length≤maxLen∧∀z∈y,xdc z)):=by
 obtain ⟨l,h1,h2,h3⟩:=xeo (enc:=(fun l:List xaf=>[.list 17 (l.map xam)])) (wf:=fun y=>(y.length≤maxLen∧∀z∈y,xdc z)) (fun r hr=>by
  obtain ⟨p,rfl,h⟩:=xcV hr
  obtain ⟨m,rfl,g⟩:=xjz h
  exact ⟨m,rfl,g⟩) 1 rfl h
 exact ⟨l,h1,h2,h3⟩
theorem xwR (l:List (List xaf)) (left:Int) (hw:(l.length≤maxLen∧∀y∈l,(y.length≤maxLen∧∀z∈y,xdc z))) (h2:0≤left) (h3:left≤1048576) (k):call Qao [.one (.list 1 (l.map (fun l:List xaf=>[.list 17 (l.map xam)]))),.one (I left)] k=k [I (szr (xbw l) left)]:=xaa (fun k=>by
 simp only [Qao,xay,List.length_map,xbu,xdo hw.1 h2 h3,xao,xah,xau,xap,xaj,xas,true_and,and_true]
 unfold xbw
 by_cases c:(l.length:Int)≤left
 rotate_left
 ·simp [xbl c,show left-(l.length:Int)<0 by omega]
 simp only [xcC c,show ¬(left-(l.length:Int)<0) by omega,decide_false,Bool.false_eq_true,if_false]
 refine (xl4 (neg:=k [I (-1)]) (fin:=fun t=>k [I t]) l (fun l:List xaf=>[.list 17 (l.map xam)]) 1 xan (left-(l.length:Int)) (I 0) (by omega) (by omega) rfl (fun i x hx hi t ht1 ht2 K=>?_) fun t K=>?_).trans ?_
 ·have e:=xun x t (hw.2 x (List.mem_of_getElem? hx)) ht1 ht2
  simp [-getElem?_pos,Qao_r0,hx,hi,e,xal (show i<1000000000000000000 by omega)]
  by_cases hs:((xan x:Nat):Int)≤t
  ·simp [xa7 hs,hs,show ¬(t-((xan x:Nat):Int)<0) by omega]
  ·simp [xaw hs,hs]
 ·simp [Qao_r0]
 ·by_cases hs:((xbd xan l:Nat):Int)≤left-(l.length:Int)
  ·simp [xa7 hs,hs]
  ·simp [xaw hs,hs]) k
theorem xwC (l:List (List xaf)) (h:xbw l≤1048576) (k):call Qbg [.one (.list 1 (l.map (fun l:List xaf=>[.list 17 (l.map xam)])))] k=k [.list 1 (l.map (fun l:List xaf=>[.list 17 (l.map xam)]))]:=xaa (fun k=>by
 have hm:=h
 unfold xbw at hm
 simp [Qbg,show l.length<1073741824 by omega]
 refine xf1 l (fun l:List xaf=>[.list 17 (l.map xam)]) (fun l:List xaf=>[.list 17 (l.map xam)]) [.list 17 []] 1 1 (.list 1 []) rfl (fun i x hx hi K rows hr hz=>?_) fun K=>?_
 ·have hs:xan x≤xbd xan l:=xaZ (s:=xan) (List.mem_of_getElem? hx)
  simp [-getElem?_pos,Qbg_r0,hx,hi,hr,hz,over,xum x (by omega),xal (show i<1000000000000000000 by omega)]
 ·simp [Qbg_r0]) k
theorem xvD (l:List (List xaf)) (h:xbw l≤1048576) (k):call Qhc [.one (.list 1 (l.map (fun l:List xaf=>[.list 17 (l.map xam)]))),.one (.list 1 (l.map (fun l:List xaf=>[.list 17 (l.map xam)])))] k=k [.bool true]:=xaa (fun k=>by
 have hm:=h
 unfold xbw at hm
 simp [Qhc]
 refine xdw l (fun l:List xaf=>[.list 17 (l.map xam)]) 1 (.bool false) rfl (fun i x hx hi K=>?_) fun K=>?_
 ·have hs:xan x≤xbd xan l:=xaZ (s:=xan) (List.mem_of_getElem? hx)
  simp [-getElem?_pos,Qhc_r0,hx,hi,xtW x (by omega),xal (show i<1000000000000000000 by omega)]
 ·simp [Qhc_r0]) k
def xdH (l:List xcb):Nat:=l.length+xbd xcu l
theorem xqI {p:PV} (h:Sh.has (.list [.int .i64,.int .i64,.int .i64,.int .i64,.int .i64,.int .i64,.int .i64,.int .i64,.list [.int .i64],.int .i64,.list [.int .i64],.int .i64,.int .i64,.list [.int .i64],.int .i64,.bool,.list [.int .i64,.int .i64],.int .i64,.int .i64,.int .i64,.int .i64,.int .i64,.int .i64,.int .i64,.int .i64,.list [.int .i64],.int .i64,.list [.int .i64],.int .i64,.int .i64,.list [.int .i64],.int .i64,.bool,.list [.int .i64,.int .i64],.int .i64,.int .i64,.int .i64,.int .i64,.int .i64,.int .i64,.int .i64,.int .i64,.list [.int .i64],.int .i64,.list [.int .i64],.int .i64,.int .i64,.list [.int .i64],.int .i64,.bool,.list [.int .i64,.int .i64]]) p):∃l:List xcb,p=.list 51 (l.map xbk)∧(l.length≤maxLen∧∀y∈l,xpH y):=by
 obtain ⟨l,h1,h2,h3⟩:=xeo xso 51 rfl h
 exact ⟨l,h1,h2,h3⟩
theorem xwP (l:List xcb) (left:Int) (hw:(l.length≤maxLen∧∀y∈l,xpH y)) (h2:0≤left) (h3:left≤1048576) (k):call Qaq [.one (.list 51 (l.map xbk)),.one (I left)] k=k [I (szr (xdH l) left)]:=xaa (fun k=>by
 simp only [Qaq,xay,List.length_map,xbu,xdo hw.1 h2 h3,xao,xah,xau,xap,xaj,xas,true_and,and_true]
 unfold xdH
 by_cases c:(l.length:Int)≤left
 rotate_left
 ·simp [xbl c,show left-(l.length:Int)<0 by omega]
 simp only [xcC c,show ¬(left-(l.length:Int)<0) by omega,decide_false,Bool.false_eq_true,if_false]
 refine (xl4 (neg:=k [I (-1)]) (fin:=fun t=>k [I t]) l xbk 51 xcu (left-(l.length:Int)) (I 0) (by omega) (by omega) rfl (fun i x hx hi t ht1 ht2 K=>?_) fun t K=>?_).trans ?_
 ·have e:=xwQ x t (hw.2 x (List.mem_of_getElem? hx)) ht1 ht2
  simp [-getElem?_pos,Qaq_r0,hx,hi,e,xal (show i<1000000000000000000 by omega)]
  by_cases hs:((xcu x:Nat):Int)≤t
  ·simp [xa7 hs,hs,show ¬(t-((xcu x:Nat):Int)<0) by omega]
  ·simp [xaw hs,hs]
 ·simp [Qaq_r0]
 ·by_cases hs:((xbd xcu l:Nat):Int)≤left-(l.length:Int)
  ·simp [xa7 hs,hs]
  ·simp [xaw hs,hs]) k
theorem xwA (l:List xcb) (h:xdH l≤1048576) (k):call Qbi [.one (.list 51 (l.map xbk))] k=k [.list 51 (l.map xbk)]:=xaa (fun k=>by
 have hm:=h
 unfold xdH at hm
 simp [Qbi,show l.length<1073741824 by omega]
 refine xf1 l xbk xbk [I 0,I 0,I 0,I 0,I 0,I 0,I 0,I 0,.list 1 [],I 0,.list 1 [],I 0,I 0,.list 1 [],I 0,.bool false,.list 2 [],I 0,I 0,I 0,I 0,I 0,I 0,I 0,I 0,.list 1 [],I 0,.list 1 [],I 0,I 0,.list 1 [],I 0,.bool false,.list 2 [],I 0,I 0,I 0,I 0,I 0,I 0,I 0,I 0,.list 1 [],I 0,.list 1 [],I 0,I 0,.list 1 [],I 0,.bool false,.list 2 []] 51 51 (.list 51 []) rfl (fun i x hx hi K rows hr hz=>?_) fun K=>?_
 ·have hs:xcu x≤xbd xcu l:=xaZ (s:=xcu) (List.mem_of_getElem? hx)
  simp [-getElem?_pos,Qbi_r0,hx,hi,hr,hz,over,xwB x (by omega),xal (show i<1000000000000000000 by omega)]
 ·simp [Qbi_r0]) k
theorem xvB (l:List xcb) (h:xdH l≤1048576) (k):call Qhe [.one (.list 51 (l.map xbk)),.one (.list 51 (l.map xbk))] k=k [.bool true]:=xaa (fun k=>by
 have hm:=h
 unfold xdH at hm
 simp [Qhe]
 refine xdw l xbk 51 (.bool false) rfl (fun i x hx hi K=>?_) fun K=>?_
 ·have hs:xcu x≤xbd xcu l:=xaZ (s:=xcu) (List.mem_of_getElem? hx)
  simp [-getElem?_pos,Qhe_r0,hx,hi,xvC x (by omega),xal (show i<1000000000000000000 by omega)]
 ·simp [Qhe_r0]) k
structure xaR where
 Chains:List (List xaf)
 Forks:List xcb
abbrev xbN (a:xaR):List PV:=[.list 1 (a.Chains.map (fun l:List xaf=>[.list 17 (l.map xam)])),.list 51 (a.Forks.map xbk)]
def xbK (a:xaR):Nat:=xbw a.Chains+(xdH a.Forks)
def xrI (a:xaR):Prop:=(a.Chains.length≤maxLen∧∀y∈a.Chains,(y.length≤maxLen∧∀z∈y,xdc z))∧(a.Forks.length≤maxLen∧∀y∈a.Forks,xpH y)
theorem xqH (r:List PV) (hr:Sh.hasAll [.list [.list [.int .i64,.int .i64,.int .i64,.int .i64,.int .i64,.int .i64,.int .i64,.int .i64,.list [.int .i64],.int .i64,.list [.int .i64],.int .i64,.int .i64,.list [.int .i64],.int .i64,.bool,.list [.int .i64,.int .i64]]],.list [.int .i64,.int .i64,.int .i64,.int .i64,.int .i64,.int .i64,.int .i64,.int .i64,.list [.int .i64],.int .i64,.list [.int .i64],.int .i64,.int .i64,.list [.int .i64],.int .i64,.bool,.list [.int .i64,.int .i64],.int .i64,.int .i64,.int .i64,.int .i64,.int .i64,.int .i64,.int .i64,.int .i64,.list [.int .i64],.int .i64,.list [.int .i64],.int .i64,.int .i64,.list [.int .i64],.int .i64,.bool,.list [.int .i64,.int .i64],.int .i64,.int .i64,.int .i64,.int .i64,.int .i64,.int .i64,.int .i64,.int .i64,.list [.int .i64],.int .i64,.list [.int .i64],.int .i64,.int .i64,.list [.int .i64],.int .i64,.bool,.list [.int .i64,.int .i64]]] r):∃a:xaR,r=xbN a∧xrI a:=by
 obtain ⟨p1,r1,rfl,h1,hr1⟩:=all_cons hr
 obtain ⟨n1,rfl,g1⟩:=xmo h1
 obtain ⟨p2,rfl,h2⟩:=xcV hr1
 obtain ⟨n2,rfl,g2⟩:=xqI h2
 exact ⟨⟨n1,n2⟩,rfl,⟨g1,g2⟩⟩
theorem xwO (a:xaR) (left:Int) (hw:xrI a) (h2:0≤left) (h3:left≤1048576) (k):call Qar [.agg (xbN a),.one (I left)] k=k [I (szr (xbK a) left)]:=xaa (fun k=>by
 obtain ⟨g0,g1⟩:=hw
 unfold xbK
 simp only [Qar,un,cur0,xwR a.Chains (left) g0 h2 h3,xao,xah,xag,xau,xap,xaj,xas,true_and,and_true]
 by_cases c0:((xbw a.Chains:Nat):Int)≤left
 rotate_left
 ·first | (simp [xbl c0,xaw c0];done) | (simp only [xbl c0,xaw c0];simp)
 simp only [xa7 c0,xcC c0,show ¬(left-((xbw a.Chains:Nat):Int)<0) by omega,decide_false,Bool.false_eq_true,if_false,xwP a.Forks (left-((xbw a.Chains:Nat):Int)) g1 (by omega) (by omega),xao,xah,xag,xau,xap,xaj,xas,true_and,and_true]
 by_cases c1:((xdH a.Forks:Nat):Int)≤left-((xbw a.Chains:Nat):Int)
 rotate_left
 ·first | (simp [xaw c1,xaw c1];done) | (simp only [xaw c1,xaw c1];simp)
 simp only [xa7 c1,show ¬(left-((xbw a.Chains:Nat):Int)-((xdH a.Forks:Nat):Int)<0) by omega,decide_false,Bool.false_eq_true,if_false,xao,xah,xag,xau,xap,xaj,xas,true_and,and_true]) k
theorem xwz (a:xaR) (h:xbK a≤1048576) (k):call Qbj [.agg (xbN a)] k=k (xbN a):=xaa (fun k=>by
 unfold xbK at h
 simp [Qbj,xwC a.Chains (by omega),xwA a.Forks (by omega)]) k
theorem xvA (a:xaR) (h:xbK a≤1048576) (k):call Qhf [.agg (xbN a),.agg (xbN a)] k=k [.bool true]:=xaa (fun k=>by
 unfold xbK at h
 simp [Qhf,xvD a.Chains (by omega),xvB a.Forks (by omega)]) k
def xb7 (l:List xb4):Nat:=l.length+xbd xbZ l
theorem xqG {p:PV} (h:Sh.has (.list [.list [.int .i64,.int .i64,.int .i64,.int .i64,.int .i64,.int .i64,.int .i64,.int .i64,.list [.int .i64],.int .i64,.list [.int .i64],.int .i64,.int .i64,.list [.int .i64],.int .i64,.bool,.list [.int .i64,.int .i64]],.list [.str,.int .i64,.int .i64,.list [.str]]]) p):∃l:List xb4,p=.list 2 (l.map xcx)∧(l.length≤maxLen∧∀y∈l,xpG y):=by
 obtain ⟨l,h1,h2,h3⟩:=xeo xsn 2 rfl h
 exact ⟨l,h1,h2,h3⟩
theorem xwU (l:List xb4) (left:Int) (hw:(l.length≤maxLen∧∀y∈l,xpG y)) (h2:0≤left) (h3:left≤1048576) (k):call Qal [.one (.list 2 (l.map xcx)),.one (I left)] k=k [I (szr (xb7 l) left)]:=xaa (fun k=>by
 simp only [Qal,xay,List.length_map,xbu,xdo hw.1 h2 h3,xao,xah,xau,xap,xaj,xas,true_and,and_true]
 unfold xb7
 by_cases c:(l.length:Int)≤left
 rotate_left
 ·simp [xbl c,show left-(l.length:Int)<0 by omega]
 simp only [xcC c,show ¬(left-(l.length:Int)<0) by omega,decide_false,Bool.false_eq_true,if_false]
 refine (xl4 (neg:=k [I (-1)]) (fin:=fun t=>k [I t]) l xcx 2 xbZ (left-(l.length:Int)) (I 0) (by omega) (by omega) rfl (fun i x hx hi t ht1 ht2 K=>?_) fun t K=>?_).trans ?_
 ·have e:=xwV x t (hw.2 x (List.mem_of_getElem? hx)) ht1 ht2
  simp [-getElem?_pos,Qal_r0,hx,hi,e,xal (show i<1000000000000000000 by omega)]
  by_cases hs:((xbZ x:Nat):Int)≤t
  ·simp [xa7 hs,hs,show ¬(t-((xbZ x:Nat):Int)<0) by omega]
  ·simp [xaw hs,hs]
 ·simp [Qal_r0]
 ·by_cases hs:((xbd xbZ l:Nat):Int)≤left-(l.length:Int)
  ·simp [xa7 hs,hs]
  ·simp [xaw hs,hs]) k
theorem xwF (l:List xb4) (h:xb7 l≤1048576) (k):call Qbd [.one (.list 2 (l.map xcx))] k=k [.list 2 (l.map xcx)]:=xaa (fun k=>by
 have hm:=h
 unfold xb7 at hm
 simp [Qbd,show l.length<1073741824 by omega]
 refine xf1 l xcx xcx [.list 17 [],.list 4 []] 2 2 (.list 2 []) rfl (fun i x hx hi K rows hr hz=>?_) fun K=>?_
 ·have hs:xbZ x≤xbd xbZ l:=xaZ (s:=xbZ) (List.mem_of_getElem? hx)
  simp [-getElem?_pos,Qbd_r0,hx,hi,hr,hz,over,xwG x (by omega),xal (show i<1000000000000000000 by omega)]
 ·simp [Qbd_r0]) k
theorem xvG (l:List xb4) (h:xb7 l≤1048576) (k):call Qgz [.one (.list 2 (l.map xcx)),.one (.list 2 (l.map xcx))] k=k [.bool true]:=xaa (fun k=>by
 have hm:=h
 unfold xb7 at hm
 simp [Qgz]
 refine xdw l xcx 2 (.bool false) rfl (fun i x hx hi K=>?_) fun K=>?_
 ·have hs:xbZ x≤xbd xbZ l:=xaZ (s:=xbZ) (List.mem_of_getElem? hx)
  simp [-getElem?_pos,Qgz_r0,hx,hi,xvH x (by omega),xal (show i<1000000000000000000 by omega)]
 ·simp [Qgz_r0]) k
structure xaS where
 Zones:List xb4
 Lie:Int
abbrev xaU (a:xaS):List PV:=[.list 2 (a.Zones.map xcx),I a.Lie]
def xaX (a:xaS):Nat:=xb7 a.Zones
def xko (a:xaS):Prop:=(a.Zones.length≤maxLen∧∀y∈a.Zones,xpG y)
theorem xpj (r:List PV) (hr:Sh.hasAll [.list [.list [.int .i64,.int .i64,.int .i64,.int .i64,.int .i64,.int .i64,.int .i64,.int .i64,.list [.int .i64],.int .i64,.list [.int .i64],.int .i64,.int .i64,.list [.int .i64],.int .i64,.bool,.list [.int .i64,.int .i64]],.list [.str,.int .i64,.int .i64,.list [.str]]],.int .i64] r):∃a:xaS,r=xaU a∧xko a:=by
 obtain ⟨p1,r1,rfl,h1,hr1⟩:=all_cons hr
 obtain ⟨n1,rfl,g1⟩:=xqG h1
 obtain ⟨p2,rfl,h2⟩:=xcV hr1
 obtain ⟨n2,rfl⟩:=xaE h2
 exact ⟨⟨n1,n2⟩,rfl,g1⟩
theorem xwT (a:xaS) (left:Int) (hw:xko a) (h2:0≤left) (h3:left≤1048576) (k):call Qam [.agg (xaU a),.one (I left)] k=k [I (szr (xaX a) left)]:=xaa (fun k=>by
 have g0:=hw
 unfold xaX
 simp only [Qam,un,cur0,xwU a.Zones (left) g0 h2 h3,xao,xah,xag,xau,xap,xaj,xas,true_and,and_true]
 by_cases c0:((xb7 a.Zones:Nat):Int)≤left
 rotate_left
 ·first | (simp [xaw c0,xaw c0];done) | (simp only [xaw c0,xaw c0];simp)
 simp only [xa7 c0,show ¬(left-((xb7 a.Zones:Nat):Int)<0) by omega,decide_false,Bool.false_eq_true,if_false,xao,xah,xag,xau,xap,xaj,xas,true_and,and_true]) k
theorem xwE (a:xaS) (h:xaX a≤1048576) (k):call Qbe [.agg (xaU a)] k=k (xaU a):=xaa (fun k=>by
 unfold xaX at h
 simp [Qbe,xwF a.Zones (by omega)]) k
theorem xvF (a:xaS) (h:xaX a≤1048576) (k):call Qha [.agg (xaU a),.agg (xaU a)] k=k [.bool true]:=xaa (fun k=>by
 unfold xaX at h
 simp [Qha,xvG a.Zones (by omega)]) k
structure xn2 where
 Known:xaR
 Found:Bool
 Entry:xav
 Done:Bool
 Codes:List Int
abbrev xga (a:xn2):List PV:=[.list 1 (a.Known.Chains.map (fun l:List xaf=>[.list 17 (l.map xam)])),.list 51 (a.Known.Forks.map xbk),.bool a.Found,.str a.Entry.Label,I a.Entry.Kind,I a.Entry.Value,strs a.Entry.Path,.bool a.Done,ints a.Codes]
def xnC (a:xn2):Nat:=xbK a.Known+(xaz a.Entry+(a.Codes.length))
structure xpO where
 Zone:Int
 Label:ByteArray
 Answer:xaJ
structure xrN where
 Lst:List xpO
structure xrO where
 Held:List Int
structure xup where
 Zone:xb4
 Held:List Int
def xcl (l:List xaS):Nat:=l.length+xbd xaX l
theorem xnN {p:PV} (h:Sh.has (.list [.list [.list [.int .i64,.int .i64,.int .i64,.int .i64,.int .i64,.int .i64,.int .i64,.int .i64,.list [.int .i64],.int .i64,.list [.int .i64],.int .i64,.int .i64,.list [.int .i64],.int .i64,.bool,.list [.int .i64,.int .i64]],.list [.str,.int .i64,.int .i64,.list [.str]]],.int .i64]) p):∃l:List xaS,p=.list 2 (l.map xaU)∧(l.length≤maxLen∧∀y∈l,xko y):=by
 obtain ⟨l,h1,h2,h3⟩:=xeo xpj 2 rfl h
 exact ⟨l,h1,h2,h3⟩
theorem xwS (l:List xaS) (left:Int) (hw:(l.length≤maxLen∧∀y∈l,xko y)) (h2:0≤left) (h3:left≤1048576) (k):call Qan [.one (.list 2 (l.map xaU)),.one (I left)] k=k [I (szr (xcl l) left)]:=xaa (fun k=>by
 simp only [Qan,xay,List.length_map,xbu,xdo hw.1 h2 h3,xao,xah,xau,xap,xaj,xas,true_and,and_true]
 unfold xcl
 by_cases c:(l.length:Int)≤left
 rotate_left
 ·simp [xbl c,show left-(l.length:Int)<0 by omega]
 simp only [xcC c,show ¬(left-(l.length:Int)<0) by omega,decide_false,Bool.false_eq_true,if_false]
 refine (xl4 (neg:=k [I (-1)]) (fin:=fun t=>k [I t]) l xaU 2 xaX (left-(l.length:Int)) (I 0) (by omega) (by omega) rfl (fun i x hx hi t ht1 ht2 K=>?_) fun t K=>?_).trans ?_
 ·have e:=xwT x t (hw.2 x (List.mem_of_getElem? hx)) ht1 ht2
  simp [-getElem?_pos,Qan_r0,hx,hi,e,xal (show i<1000000000000000000 by omega)]
  by_cases hs:((xaX x:Nat):Int)≤t
  ·simp [xa7 hs,hs,show ¬(t-((xaX x:Nat):Int)<0) by omega]
  ·simp [xaw hs,hs]
 ·simp [Qan_r0]
 ·by_cases hs:((xbd xaX l:Nat):Int)≤left-(l.length:Int)
  ·simp [xa7 hs,hs]
  ·simp [xaw hs,hs]) k
theorem xwD (l:List xaS) (h:xcl l≤1048576) (k):call Qbf [.one (.list 2 (l.map xaU))] k=k [.list 2 (l.map xaU)]:=xaa (fun k=>by
 have hm:=h
 unfold xcl at hm
 simp [Qbf,show l.length<1073741824 by omega]
 refine xf1 l xaU xaU [.list 2 [],I 0] 2 2 (.list 2 []) rfl (fun i x hx hi K rows hr hz=>?_) fun K=>?_
 ·have hs:xaX x≤xbd xaX l:=xaZ (s:=xaX) (List.mem_of_getElem? hx)
  simp [-getElem?_pos,Qbf_r0,hx,hi,hr,hz,over,xwE x (by omega),xal (show i<1000000000000000000 by omega)]
 ·simp [Qbf_r0]) k
theorem xvE (l:List xaS) (h:xcl l≤1048576) (k):call Qhb [.one (.list 2 (l.map xaU)),.one (.list 2 (l.map xaU))] k=k [.bool true]:=xaa (fun k=>by
 have hm:=h
 unfold xcl at hm
 simp [Qhb]
 refine xdw l xaU 2 (.bool false) rfl (fun i x hx hi K=>?_) fun K=>?_
 ·have hs:xaX x≤xbd xaX l:=xaZ (s:=xaX) (List.mem_of_getElem? hx)
  simp [-getElem?_pos,Qhb_r0,hx,hi,xvF x (by omega),xal (show i<1000000000000000000 by omega)]
 ·simp [Qhb_r0]) k
structure xuo where
 Now:Int
 Actors:List xrO
 Zones:List xb4
 Said:List xup
 Servers:List xaS
 Known:xaR
 Cache:xrN
theorem xbj {ρ:List (Nat×MM)} {off t:Nat} {ss:List (Option Eff×SV)} {r r1 r':List PV} {p:PV} {k k':Int} (h1:r[off]? = some p) (h2:p.flat=true) (h3:r.set off (xsr mtx k t)=r1) (h4:IntKind.i64.wrap (k+1)=k+1) (h:xct ρ mtx ss r1 (k+1)=some (r',k')):xct ρ mtx ((some (.store off t),.kk)::(none,.kinc)::ss) r k=some (r',k'):=by
 subst h3
 simp only [xct,xqa,xkb,h1,h2,if_true,h4]
 exact h
theorem xda {ρ:List (Nat×MM)} {off f:Nat} {m:PV→Int→Option (PV×Int)} {ss:List (Option Eff×SV)} {r r1 r':List PV} {p p':PV} {k k1 k':Int} (h1:r[off]? = some p) (h2:lk ρ f=some (.sl m)) (h3:m p k=some (p',k1)) (h4:r.set off p'=r1) (h5:rg64 k1=true) (h:xct ρ mtx ss r1 k1=some (r',k')):xct ρ mtx ((some (.call off none f),.res)::ss) r k=some (r',k'):=by
 subst h4
 simp only [xct,xqa,xkb,h1,h2,h3,h5,if_true]
 exact h
theorem xtt {ρ:List (Nat×MM)} {off n f:Nat} {m:List PV→Int→Option (List PV×Int)} {ss:List (Option Eff×SV)} {r r1 r' q q':List PV} {k k1 k':Int} (h1:off+n≤r.length) (h2:lk ρ f=some (.st m)) (hq:(r.drop off).take n=q) (h3:m q k=some (q',k1)) (h4:r.take off++q'++r.drop (off+n)=r1) (h5:rg64 k1=true) (h:xct ρ mtx ss r1 k1=some (r',k')):xct ρ mtx ((some (.call off (some n) f),.res)::ss) r k=some (r',k'):=by
 subst h4;subst hq
 simp only [xct,xqa,xkb,h1,h2,h3,h5,if_true]
 exact h
theorem xcO {k:Int} (h1:0≤k) (h2:k≤1000000000000000):rg64 k=true:=by simp only [rg64,Bool.and_eq_true,decide_eq_true_eq];omega
theorem wr1 {k:Int} (h1:0≤k) (h2:k≤1000000000000000):IntKind.i64.wrap (k+1)=k+1:=xbV (by omega) (by omega)
theorem xd8 {sz:Nat} {rows:List (List PV)} {i:Nat} {r:List PV} (h:rows[i]? = some r) (k:List PV→Prop):xai sz (.list sz rows) (I i) k=k r:=by
 simp [xai,h]
theorem xbY {α:Type} (e:α→List PV) (c:α→Nat) {ρ:List (Nat×MM)} {ss:List (Option Eff×SV)} {R:(List PV→Prop)→List PV→Prop} (sz:Nat):∀(l:List α)
 (hel:∀x∈l,∀k,0≤k→k+40*(1+(c x:Int))≤1000000000000000→∃r' k',xct ρ mtx ss (e x) k=some (r',k')∧k≤k'∧k'≤k+40*(1+(c x:Int))∧∀(rows:List (List PV)) (i:Nat) K z,rows[i]? = some r'→i<rows.length→rows.length≤1000000000000000→(R K [.list sz rows,I k,z,I i]↔K [.list sz rows,I k',z,I ((i:Int)+1)]))
 (k:Int),0≤k→k+40*((l.length:Int)+(xbd c l:Int))≤1000000000000000→∃rows' k',xde ρ mtx ss (l.map e) k=some (rows',k')∧rows'.length=l.length∧k≤k'∧k'≤k+40*((l.length:Int)+(xbd c l:Int)) ∧
  ∀(pre:List (List PV)) (z:PV) (fin:Prop),(pre++rows').length≤1000000000000000→(∀K,R K [.list sz (pre++rows'),I k',z,I (pre++rows').length]↔fin)→(lp R [.list sz (pre++rows'),I k,z,I pre.length]↔fin)
 | [],hel,k,h0,hb=>⟨[],k,rfl,rfl,Int.le_refl _,by simp [xbd],fun pre z fin hl hf=>xaP fun K=>by have:=hf K;rwa [List.append_nil] at this ⊢⟩
 | x::l,hel,k,h0,hb=>by
  have hs:xbd c (x::l)=c x+xbd c l:=rfl
  rw [hs] at hb ⊢
  simp only [List.length_cons] at hb ⊢
  obtain ⟨r',k1,q1,q2,q3,q4⟩:=hel x (by simp) k h0 (by omega)
  obtain ⟨rows',k',p1,p2,p3,p4,p5⟩:=xbY e c sz l (fun y hy=>hel y (by simp [hy])) k1 (by omega) (by omega)
  refine ⟨r'::rows',k',by simp only [List.map_cons,xde,q1,p1],by simp [p2],by omega,by omega,fun pre z fin hl hf=>?_⟩
  have hx:(pre++r'::rows')[pre.length]? = some r':=by simp
  have hlt:pre.length<(pre++r'::rows').length:=by simp
  rw [xch fun K=>q4 (pre++r'::rows') pre.length K z hx hlt hl]
  have e1:pre++r'::rows'=(pre++[r'])++rows':=by simp
  have e2:((pre.length:Int)+1)=(((pre++[r']).length:Nat):Int):=by simp
  rw [e1,e2]
  exact p5 (pre++[r']) z fin (by rw [←e1];exact hl) (by rw [←e1];exact hf)
theorem xe1 {α:Type} (e:α→List PV) (c:α→Nat) {ρ:List (Nat×MM)} {ss:List (Option Eff×SV)}:∀(l:List α)
 (hel:∀x∈l,∀k,0≤k→k+40*(1+(c x:Int))≤1000000000000000→∃r' k',xct ρ mtx ss (e x) k=some (r',k')∧k≤k'∧k'≤k+40*(1+(c x:Int)))
 (k:Int),0≤k→k+40*((l.length:Int)+(xbd c l:Int))≤1000000000000000→∃rows' k',xde ρ mtx ss (l.map e) k=some (rows',k')∧k≤k'∧k'≤k+40*((l.length:Int)+(xbd c l:Int))
 | [],hel,k,h0,hb=>⟨[],k,rfl,Int.le_refl _,by simp [xbd]⟩
 | x::l,hel,k,h0,hb=>by
  have hs:xbd c (x::l)=c x+xbd c l:=rfl
  rw [hs] at hb ⊢
  simp only [List.length_cons] at hb ⊢
  obtain ⟨r',k1,q1,q2,q3⟩:=hel x (by simp) k h0 (by omega)
  obtain ⟨rows',k',p1,p3,p4⟩:=xe1 e c l (fun y hy=>hel y (by simp [hy])) k1 (by omega) (by omega)
  exact ⟨r'::rows',k',by simp only [List.map_cons,xde,q1,p1],by omega,by omega⟩
theorem xdj {ρ:List (Nat×MM)} {sz:Nat} {ss:List (Option Eff×SV)} {rows rows':List (List PV)} {k k':Int} (h1:rows.length<1000000000000000000) (h2:xde ρ mtx ss rows k=some (rows',k')):mkS ρ mtx sz ss (.list sz rows) k=some (.list sz rows',k'):=by
 simp only [mkS,true_and,h1,if_true,h2]
theorem xoK {ρ:List (Nat×MM)} {esz:Nat} {ss:List (Option Eff×SV)} {ps ps':List PV} {k k':Int} (h1:ps.length=esz) (h2:xct ρ mtx ss ps k=some (ps',k')):mkT ρ mtx esz ss ps k=some (ps',k'):=by
 simp only [mkT,h1,if_true,h2]
theorem xrn {α:Type} (l:List α):xbd (fun _:α=>0) l=0:=by
 induction l with
 | nil=>rfl
 | cons x l ih=>show 0+xbd _ l=0;rw [ih]
theorem xuI {α:Type} {f g:α→Nat} (h:∀x,f x=g x) (l:List α):xbd f l=xbd g l:=by rw [show f=g from funext h]
theorem xbJ (l:List Int) (k:Int) (h0:0≤k) (hb:k+40*((l.length:Nat):Int)≤1000000000000000):∃p k',mk_IntS (ints l) k=some (p,k')∧k≤k'∧k'≤k+40*((l.length:Nat):Int)∧∀K,call Qhg [.one p,.one (I k)] K=K [I k']:=by
 have hm:(l.length:Nat)=l.length+xbd (fun x:Int=>0) l:=by rw [xrn];omega
 rw [hm] at hb ⊢
 have hrow:∀(A:Prop) (B:PV→PV→PV→PV→Prop),∀x∈l,∀k,0≤k→k+40*(1+((fun x:Int=>0) x:Int))≤1000000000000000→∃r' k',xct mk_IntS_r mtx mk_IntS_s (rI x) k=some (r',k')∧k≤k'∧k'≤k+40*(1+((fun x:Int=>0) x:Int))∧∀(rows:List (List PV)) (i:Nat) K z,rows[i]? = some r'→i<rows.length→rows.length≤1000000000000000→((fun L w=>Qhg_r0 w L A B) K [.list 1 rows,I k,z,I i]↔K [.list 1 rows,I k',z,I ((i:Int)+1)]):=by
  intro A B x hx k h0 hb
  have hle:(l.length:Int)≤1000000000000000:=by omega
  clear hle
  try dsimp only at hb ⊢
  refine ⟨[I (k)],k+1,xbj rfl rfl rfl (wr1 (by omega) (by omega)) (rfl),by omega,by omega,fun rows i K z hr hi hn=>?_⟩
  have f0:=wr1 (k:=k) (by omega) (by omega)
  have hlt:(i:Int)<(rows.length:Int):=by omega
  simp only [Qhg_r0,un,cur0,xay,xao,hlt,decide_true,decide_false,xah,if_true,xd8 hr,xag,xbq,xbU,bne_self_eq_false,Bool.false_eq_true,if_false,xbb,xeb,Bool.not_true,xcq,xaI,xdB,f0,xal (show i<1000000000000000000 by omega),true_and,ne_eq,not_false_eq_true]
 obtain ⟨rows',k',p1,p2,p3,p4,p5⟩:=xbY rI (fun x:Int=>0) 1 l (hrow True fun _ _ _ _=>True) k h0 (by omega)
 have hle:(l.length:Int)≤1000000000000000:=by omega
 refine ⟨.list 1 rows',k',?_,p3,p4,fun K=>?_⟩
 ·exact xdj (by rw [List.length_map];omega) p1
 ·refine (xaa (fun K=>?_) K)
  obtain ⟨rows2,k2,r1,r2,r3,r4,r5⟩:=xbY rI (fun x:Int=>0) 1 l (hrow (rt [.sc] [(I (-1))] K) fun q6 q7 q8 q9=>rt [.sc] [q7] K) k h0 (by omega)
  have hs:=p1.symm.trans r1
  injection hs with hs;injection hs with hs1 hs2
  subst hs1;subst hs2
  have:=r5 [] (I 0) (K [I k']) (by rw [List.nil_append,p2];omega) fun K2=>by
   simp only [Qhg_r0,un,cur0,xay,xao,Int.lt_irrefl,decide_false,xah,Bool.false_eq_true,if_false,List.nil_append,xau,xap,xaj,xas,true_and]
  exact this
theorem xe4 (l:List xfP) (k:Int) (h0:0≤k) (hb:k+40*((l.length:Nat):Int)≤1000000000000000):∃p k',mk_SigS (.list 2 (l.map xcp)) k=some (p,k')∧k≤k'∧k'≤k+40*((l.length:Nat):Int)∧∀K,call Qhh [.one p,.one (I k)] K=K [I k']:=by
 have hm:(l.length:Nat)=l.length+xbd (fun x:xfP=>0) l:=by rw [xrn];omega
 rw [hm] at hb ⊢
 have hrow:∀(A:Prop) (B:PV→PV→PV→PV→Prop),∀x∈l,∀k,0≤k→k+40*(1+((fun x:xfP=>0) x:Int))≤1000000000000000→∃r' k',xct mk_SigS_r mtx mk_SigS_s (xcp x) k=some (r',k')∧k≤k'∧k'≤k+40*(1+((fun x:xfP=>0) x:Int))∧∀(rows:List (List PV)) (i:Nat) K z,rows[i]? = some r'→i<rows.length→rows.length≤1000000000000000→((fun L w=>Qhh_r0 w L A B) K [.list 2 rows,I k,z,I i]↔K [.list 2 rows,I k',z,I ((i:Int)+1)]):=by
  intro A B x hx k h0 hb
  have hle:(l.length:Int)≤1000000000000000:=by omega
  clear hle
  try dsimp only at hb ⊢
  refine ⟨[I (k),I (k+1)],k+1+1,xbj rfl rfl rfl (wr1 (by omega) (by omega)) (xbj rfl rfl rfl (wr1 (by omega) (by omega)) (rfl)),by omega,by omega,fun rows i K z hr hi hn=>?_⟩
  have f0:=wr1 (k:=k) (by omega) (by omega)
  have f1:=wr1 (k:=k+1) (by omega) (by omega)
  have hlt:(i:Int)<(rows.length:Int):=by omega
  simp only [Qhh_r0,un,cur0,xay,xao,hlt,decide_true,decide_false,xah,if_true,xd8 hr,xag,xbq,xbU,bne_self_eq_false,Bool.false_eq_true,if_false,xbb,xeb,Bool.not_true,xcq,xaI,xdB,f0,f1,xal (show i<1000000000000000000 by omega),true_and,ne_eq,not_false_eq_true]
 obtain ⟨rows',k',p1,p2,p3,p4,p5⟩:=xbY xcp (fun x:xfP=>0) 2 l (hrow True fun _ _ _ _=>True) k h0 (by omega)
 have hle:(l.length:Int)≤1000000000000000:=by omega
 refine ⟨.list 2 rows',k',?_,p3,p4,fun K=>?_⟩
 ·exact xdj (by rw [List.length_map];omega) p1
 ·refine (xaa (fun K=>?_) K)
  obtain ⟨rows2,k2,r1,r2,r3,r4,r5⟩:=xbY xcp (fun x:xfP=>0) 2 l (hrow (rt [.sc] [(I (-1))] K) fun q6 q7 q8 q9=>rt [.sc] [q7] K) k h0 (by omega)
  have hs:=p1.symm.trans r1
  injection hs with hs;injection hs with hs1 hs2
  subst hs1;subst hs2
  have:=r5 [] (I 0) (K [I k']) (by rw [List.nil_append,p2];omega) fun K2=>by
   simp only [Qhh_r0,un,cur0,xay,xao,Int.lt_irrefl,decide_false,xah,Bool.false_eq_true,if_false,List.nil_append,xau,xap,xaj,xas,true_and]
  exact this
theorem xf0 (l:List xaf) (k:Int) (h0:0≤k) (hb:k+40*((xan l:Nat):Int)≤1000000000000000):∃p k',mk_SignedS (.list 17 (l.map xam)) k=some (p,k')∧k≤k'∧k'≤k+40*((xan l:Nat):Int)∧∀K,call Qhi [.one p,.one (I k)] K=K [I k']:=by
 have hm:xan l=l.length+xbd (fun x:xaf=>xar x) l:=rfl
 rw [hm] at hb ⊢
 have hrow:∀(A:Prop) (B:PV→PV→PV→PV→Prop),∀x∈l,∀k,0≤k→k+40*(1+((fun x:xaf=>xar x) x:Int))≤1000000000000000→∃r' k',xct mk_SignedS_r mtx mk_SignedS_s (xam x) k=some (r',k')∧k≤k'∧k'≤k+40*(1+((fun x:xaf=>xar x) x:Int))∧∀(rows:List (List PV)) (i:Nat) K z,rows[i]? = some r'→i<rows.length→rows.length≤1000000000000000→((fun L w=>Qhi_r0 w L A A A A A B) K [.list 17 rows,I k,z,I i]↔K [.list 17 rows,I k',z,I ((i:Int)+1)]):=by
  intro A B x hx k h0 hb
  have hle:(l.length:Int)≤1000000000000000:=by omega
  clear hle
  try dsimp only at hb ⊢
  simp only [xbB,xbm,xar] at hb ⊢
  obtain ⟨p1,k1,e1,l1,u1,g1⟩:=xbJ x.Head.Keys.Lst (k+1+1+1+1+1+1+1+1) (by omega) (by omega)
  obtain ⟨p2,k2,e2,l2,u2,g2⟩:=xbJ x.Head.Heirs.Lst (k1+1) (by omega) (by omega)
  obtain ⟨p3,k3,e3,l3,u3,g3⟩:=xbJ x.Head.Judge.Lst (k2+1+1) (by omega) (by omega)
  obtain ⟨p4,k4,e4,l4,u4,g4⟩:=xe4 x.Sigs (k3+1+1) (by omega) (by omega)
  refine ⟨[I (k),I (k+1),I (k+1+1),I (k+1+1+1),I (k+1+1+1+1),I (k+1+1+1+1+1),I (k+1+1+1+1+1+1),I (k+1+1+1+1+1+1+1),p1,I (k1),p2,I (k2),I (k2+1),p3,I (k3),.bool ((k3+1).tmod 3==0),p4],k4,xbj rfl rfl rfl (wr1 (by omega) (by omega)) (xbj rfl rfl rfl (wr1 (by omega) (by omega)) (xbj rfl rfl rfl (wr1 (by omega) (by omega)) (xbj rfl rfl rfl (wr1 (by omega) (by omega)) (xbj (r1:=[I (k),I (k+1),I (k+1+1),I (k+1+1+1),I (k+1+1+1+1),I x.Head.Count,I x.Head.Root,I x.Head.Prev,ints x.Head.Keys.Lst,I x.Head.Keys.Need,ints x.Head.Heirs.Lst,I x.Head.Heirs.Need,I x.Head.Wait,ints x.Head.Judge.Lst,I x.Head.Judge.Need,.bool x.Head.Frozen,.list 2 (x.Sigs.map xcp)]) rfl rfl rfl (wr1 (by omega) (by omega)) (xbj rfl rfl rfl (wr1 (by omega) (by omega)) (xbj rfl rfl rfl (wr1 (by omega) (by omega)) (xbj rfl rfl rfl (wr1 (by omega) (by omega)) (xda rfl rfl e1 rfl (xcO (by omega) (by omega)) (xbj (r1:=[I (k),I (k+1),I (k+1+1),I (k+1+1+1),I (k+1+1+1+1),I (k+1+1+1+1+1),I (k+1+1+1+1+1+1),I (k+1+1+1+1+1+1+1),p1,I (k1),ints x.Head.Heirs.Lst,I x.Head.Heirs.Need,I x.Head.Wait,ints x.Head.Judge.Lst,I x.Head.Judge.Need,.bool x.Head.Frozen,.list 2 (x.Sigs.map xcp)]) rfl rfl rfl (wr1 (by omega) (by omega)) (xda rfl rfl e2 rfl (xcO (by omega) (by omega)) (xbj rfl rfl rfl (wr1 (by omega) (by omega)) (xbj rfl rfl rfl (wr1 (by omega) (by omega)) (xda rfl rfl e3 rfl (xcO (by omega) (by omega)) (xbj (r1:=[I (k),I (k+1),I (k+1+1),I (k+1+1+1),I (k+1+1+1+1),I (k+1+1+1+1+1),I (k+1+1+1+1+1+1),I (k+1+1+1+1+1+1+1),p1,I (k1),p2,I (k2),I (k2+1),p3,I (k3),.bool x.Head.Frozen,.list 2 (x.Sigs.map xcp)]) rfl rfl rfl (wr1 (by omega) (by omega)) (xbj rfl rfl rfl (wr1 (by omega) (by omega)) (xda rfl rfl e4 rfl (xcO (by omega) (by omega)) (rfl))))))))))))))))),by omega,by omega,fun rows i K z hr hi hn=>?_⟩
  have f0:=wr1 (k:=k) (by omega) (by omega)
  have f1:=wr1 (k:=k+1) (by omega) (by omega)
  have f2:=wr1 (k:=k+1+1) (by omega) (by omega)
  have f3:=wr1 (k:=k+1+1+1) (by omega) (by omega)
  have f4:=wr1 (k:=k+1+1+1+1) (by omega) (by omega)
  have f5:=wr1 (k:=k+1+1+1+1+1) (by omega) (by omega)
  have f6:=wr1 (k:=k+1+1+1+1+1+1) (by omega) (by omega)
  have f7:=wr1 (k:=k+1+1+1+1+1+1+1) (by omega) (by omega)
  have f9:¬(k1<0):=by omega
  have f10:=wr1 (k:=k1) (by omega) (by omega)
  have f12:¬(k2<0):=by omega
  have f13:=wr1 (k:=k2) (by omega) (by omega)
  have f14:=wr1 (k:=k2+1) (by omega) (by omega)
  have f16:¬(k3<0):=by omega
  have f17:=wr1 (k:=k3) (by omega) (by omega)
  have f18:=wr1 (k:=k3+1) (by omega) (by omega)
  have f20:¬(k4<0):=by omega
  have hlt:(i:Int)<(rows.length:Int):=by omega
  simp only [Qhi_r0,un,cur0,xay,xao,hlt,decide_true,decide_false,xah,if_true,xd8 hr,xag,xbq,xbU,bne_self_eq_false,Bool.false_eq_true,if_false,xbb,xeb,Bool.not_true,xcq,xaI,xdB,f0,f1,f2,f3,f4,f5,f6,f7,g1,f9,f10,g2,f12,f13,f14,g3,f16,f17,f18,g4,f20,xal (show i<1000000000000000000 by omega),true_and,ne_eq,not_false_eq_true]
  simp
 obtain ⟨rows',k',p1,p2,p3,p4,p5⟩:=xbY xam (fun x:xaf=>xar x) 17 l (hrow True fun _ _ _ _=>True) k h0 (by omega)
 have hle:(l.length:Int)≤1000000000000000:=by omega
 refine ⟨.list 17 rows',k',?_,p3,p4,fun K=>?_⟩
 ·exact xdj (by rw [List.length_map];omega) p1
 ·refine (xaa (fun K=>?_) K)
  obtain ⟨rows2,k2,r1,r2,r3,r4,r5⟩:=xbY xam (fun x:xaf=>xar x) 17 l (hrow (rt [.sc] [(I (-1))] K) fun q6 q7 q8 q9=>rt [.sc] [q7] K) k h0 (by omega)
  have hs:=p1.symm.trans r1
  injection hs with hs;injection hs with hs1 hs2
  subst hs1;subst hs2
  have:=r5 [] (I 0) (K [I k']) (by rw [List.nil_append,p2];omega) fun K2=>by
   simp only [Qhi_r0,un,cur0,xay,xao,Int.lt_irrefl,decide_false,xah,Bool.false_eq_true,if_false,List.nil_append,xau,xap,xaj,xas,true_and]
  exact this
theorem xiG (l:List (List xaf)) (k:Int) (h0:0≤k) (hb:k+40*((xbw l:Nat):Int)≤1000000000000000):∃p k',mk_SignedSS (.list 1 (l.map (fun l:List xaf=>[.list 17 (l.map xam)]))) k=some (p,k')∧k≤k'∧k'≤k+40*((xbw l:Nat):Int)∧∀K,call Qhk [.one p,.one (I k)] K=K [I k']:=by
 have hm:xbw l=l.length+xbd (fun x:List xaf=>xan x) l:=rfl
 rw [hm] at hb ⊢
 have hrow:∀(A:Prop) (B:PV→PV→PV→PV→Prop),∀x∈l,∀k,0≤k→k+40*(1+((fun x:List xaf=>xan x) x:Int))≤1000000000000000→∃r' k',xct mk_SignedSS_r mtx mk_SignedSS_s ((fun l:List xaf=>[.list 17 (l.map xam)]) x) k=some (r',k')∧k≤k'∧k'≤k+40*(1+((fun x:List xaf=>xan x) x:Int))∧∀(rows:List (List PV)) (i:Nat) K z,rows[i]? = some r'→i<rows.length→rows.length≤1000000000000000→((fun L w=>Qhk_r0 w L A B) K [.list 1 rows,I k,z,I i]↔K [.list 1 rows,I k',z,I ((i:Int)+1)]):=by
  intro A B x hx k h0 hb
  have hle:(l.length:Int)≤1000000000000000:=by omega
  clear hle
  try dsimp only at hb ⊢
  have hb0:=hb
  obtain ⟨p1,k1,e1,l1,u1,g1⟩:=xf0 x (k) (by omega) (by omega)
  refine ⟨[p1],k1,xda rfl rfl e1 rfl (xcO (by omega) (by omega)) (rfl),by omega,by omega,fun rows i K z hr hi hn=>?_⟩
  have f1:¬(k1<0):=by omega
  have hlt:(i:Int)<(rows.length:Int):=by omega
  simp only [Qhk_r0,un,cur0,xay,xao,hlt,decide_true,decide_false,xah,if_true,xd8 hr,xag,xbq,xbU,bne_self_eq_false,Bool.false_eq_true,if_false,xbb,xeb,Bool.not_true,xcq,xaI,xdB,g1,f1,xal (show i<1000000000000000000 by omega),true_and,ne_eq,not_false_eq_true]
 obtain ⟨rows',k',p1,p2,p3,p4,p5⟩:=xbY (fun l:List xaf=>[.list 17 (l.map xam)]) (fun x:List xaf=>xan x) 1 l (hrow True fun _ _ _ _=>True) k h0 (by omega)
 have hle:(l.length:Int)≤1000000000000000:=by omega
 refine ⟨.list 1 rows',k',?_,p3,p4,fun K=>?_⟩
 ·exact xdj (by rw [List.length_map];omega) p1
 ·refine (xaa (fun K=>?_) K)
  obtain ⟨rows2,k2,r1,r2,r3,r4,r5⟩:=xbY (fun l:List xaf=>[.list 17 (l.map xam)]) (fun x:List xaf=>xan x) 1 l (hrow (rt [.sc] [(I (-1))] K) fun q6 q7 q8 q9=>rt [.sc] [q7] K) k h0 (by omega)
  have hs:=p1.symm.trans r1
  injection hs with hs;injection hs with hs1 hs2
  subst hs1;subst hs2
  have:=r5 [] (I 0) (K [I k']) (by rw [List.nil_append,p2];omega) fun K2=>by
   simp only [Qhk_r0,un,cur0,xay,xao,Int.lt_irrefl,decide_false,xah,Bool.false_eq_true,if_false,List.nil_append,xau,xap,xaj,xas,true_and]
  exact this
theorem xl2 (l:List xcb) (k:Int) (h0:0≤k) (hb:k+40*((xdH l:Nat):Int)≤1000000000000000):∃p k',mk_ForkS (.list 51 (l.map xbk)) k=some (p,k')∧k≤k'∧k'≤k+40*((xdH l:Nat):Int)∧∀K,call Qhl [.one p,.one (I k)] K=K [I k']:=by
 have hm:xdH l=l.length+xbd (fun x:xcb=>xcu x) l:=rfl
 rw [hm] at hb ⊢
 have hrow:∀(A:Prop) (B:PV→PV→PV→PV→Prop),∀x∈l,∀k,0≤k→k+40*(1+((fun x:xcb=>xcu x) x:Int))≤1000000000000000→∃r' k',xct mk_ForkS_r mtx mk_ForkS_s (xbk x) k=some (r',k')∧k≤k'∧k'≤k+40*(1+((fun x:xcb=>xcu x) x:Int))∧∀(rows:List (List PV)) (i:Nat) K z,rows[i]? = some r'→i<rows.length→rows.length≤1000000000000000→((fun L w=>Qhl_r0 w L B A A A A A A A A A A A A A) K [.list 51 rows,I k,z,I i]↔K [.list 51 rows,I k',z,I ((i:Int)+1)]):=by
  intro A B x hx k h0 hb
  have hle:(l.length:Int)≤1000000000000000:=by omega
  clear hle
  try dsimp only at hb ⊢
  simp only [xcu,xbB,xbm,xar] at hb ⊢
  obtain ⟨p1,k1,e1,l1,u1,g1⟩:=xbJ x.Before.Head.Keys.Lst (k+1+1+1+1+1+1+1+1) (by omega) (by omega)
  obtain ⟨p2,k2,e2,l2,u2,g2⟩:=xbJ x.Before.Head.Heirs.Lst (k1+1) (by omega) (by omega)
  obtain ⟨p3,k3,e3,l3,u3,g3⟩:=xbJ x.Before.Head.Judge.Lst (k2+1+1) (by omega) (by omega)
  obtain ⟨p4,k4,e4,l4,u4,g4⟩:=xe4 x.Before.Sigs (k3+1+1) (by omega) (by omega)
  obtain ⟨p5,k5,e5,l5,u5,g5⟩:=xbJ x.A.Head.Keys.Lst (k4+1+1+1+1+1+1+1+1) (by omega) (by omega)
  obtain ⟨p6,k6,e6,l6,u6,g6⟩:=xbJ x.A.Head.Heirs.Lst (k5+1) (by omega) (by omega)
  obtain ⟨p7,k7,e7,l7,u7,g7⟩:=xbJ x.A.Head.Judge.Lst (k6+1+1) (by omega) (by omega)
  obtain ⟨p8,k8,e8,l8,u8,g8⟩:=xe4 x.A.Sigs (k7+1+1) (by omega) (by omega)
  obtain ⟨p9,k9,e9,l9,u9,g9⟩:=xbJ x.B.Head.Keys.Lst (k8+1+1+1+1+1+1+1+1) (by omega) (by omega)
  obtain ⟨p10,k10,e10,l10,u10,g10⟩:=xbJ x.B.Head.Heirs.Lst (k9+1) (by omega) (by omega)
  obtain ⟨p11,k11,e11,l11,u11,g11⟩:=xbJ x.B.Head.Judge.Lst (k10+1+1) (by omega) (by omega)
  obtain ⟨p12,k12,e12,l12,u12,g12⟩:=xe4 x.B.Sigs (k11+1+1) (by omega) (by omega)
  refine ⟨[I (k),I (k+1),I (k+1+1),I (k+1+1+1),I (k+1+1+1+1),I (k+1+1+1+1+1),I (k+1+1+1+1+1+1),I (k+1+1+1+1+1+1+1),p1,I (k1),p2,I (k2),I (k2+1),p3,I (k3),.bool ((k3+1).tmod 3==0),p4,I (k4),I (k4+1),I (k4+1+1),I (k4+1+1+1),I (k4+1+1+1+1),I (k4+1+1+1+1+1),I (k4+1+1+1+1+1+1),I (k4+1+1+1+1+1+1+1),p5,I (k5),p6,I (k6),I (k6+1),p7,I (k7),.bool ((k7+1).tmod 3==0),p8,I (k8),I (k8+1),I (k8+1+1),I (k8+1+1+1),I (k8+1+1+1+1),I (k8+1+1+1+1+1),I (k8+1+1+1+1+1+1),I (k8+1+1+1+1+1+1+1),p9,I (k9),p10,I (k10),I (k10+1),p11,I (k11),.bool ((k11+1).tmod 3==0),p12],k12,xbj rfl rfl rfl (wr1 (by omega) (by omega)) (xbj rfl rfl rfl (wr1 (by omega) (by omega)) (xbj rfl rfl rfl (wr1 (by omega) (by omega)) (xbj rfl rfl rfl (wr1 (by omega) (by omega)) (xbj (r1:=[I (k),I (k+1),I (k+1+1),I (k+1+1+1),I (k+1+1+1+1),I x.Before.Head.Count,I x.Before.Head.Root,I x.Before.Head.Prev,ints x.Before.Head.Keys.Lst,I x.Before.Head.Keys.Need,ints x.Before.Head.Heirs.Lst,I x.Before.Head.Heirs.Need,I x.Before.Head.Wait,ints x.Before.Head.Judge.Lst,I x.Before.Head.Judge.Need,.bool x.Before.Head.Frozen,.list 2 (x.Before.Sigs.map xcp),I x.A.Head.Zone,I x.A.Head.Epoch,I x.A.Head.Kind,I x.A.Head.Time,I x.A.Head.Until,I x.A.Head.Count,I x.A.Head.Root,I x.A.Head.Prev,ints x.A.Head.Keys.Lst,I x.A.Head.Keys.Need,ints x.A.Head.Heirs.Lst,I x.A.Head.Heirs.Need,I x.A.Head.Wait,ints x.A.Head.Judge.Lst,I x.A.Head.Judge.Need,.bool x.A.Head.Frozen,.list 2 (x.A.Sigs.map xcp),I x.B.Head.Zone,I x.B.Head.Epoch,I x.B.Head.Kind,I x.B.Head.Time,I x.B.Head.Until,I x.B.Head.Count,I x.B.Head.Root,I x.B.Head.Prev,ints x.B.Head.Keys.Lst,I x.B.Head.Keys.Need,ints x.B.Head.Heirs.Lst,I x.B.Head.Heirs.Need,I x.B.Head.Wait,ints x.B.Head.Judge.Lst,I x.B.Head.Judge.Need,.bool x.B.Head.Frozen,.list 2 (x.B.Sigs.map xcp)]) rfl rfl rfl (wr1 (by omega) (by omega)) (xbj rfl rfl rfl (wr1 (by omega) (by omega)) (xbj rfl rfl rfl (wr1 (by omega) (by omega)) (xbj rfl rfl rfl (wr1 (by omega) (by omega)) (xda rfl rfl e1 rfl (xcO (by omega) (by omega)) (xbj (r1:=[I (k),I (k+1),I (k+1+1),I (k+1+1+1),I (k+1+1+1+1),I (k+1+1+1+1+1),I (k+1+1+1+1+1+1),I (k+1+1+1+1+1+1+1),p1,I (k1),ints x.Before.Head.Heirs.Lst,I x.Before.Head.Heirs.Need,I x.Before.Head.Wait,ints x.Before.Head.Judge.Lst,I x.Before.Head.Judge.Need,.bool x.Before.Head.Frozen,.list 2 (x.Before.Sigs.map xcp),I x.A.Head.Zone,I x.A.Head.Epoch,I x.A.Head.Kind,I x.A.Head.Time,I x.A.Head.Until,I x.A.Head.Count,I x.A.Head.Root,I x.A.Head.Prev,ints x.A.Head.Keys.Lst,I x.A.Head.Keys.Need,ints x.A.Head.Heirs.Lst,I x.A.Head.Heirs.Need,I x.A.Head.Wait,ints x.A.Head.Judge.Lst,I x.A.Head.Judge.Need,.bool x.A.Head.Frozen,.list 2 (x.A.Sigs.map xcp),I x.B.Head.Zone,I x.B.Head.Epoch,I x.B.Head.Kind,I x.B.Head.Time,I x.B.Head.Until,I x.B.Head.Count,I x.B.Head.Root,I x.B.Head.Prev,ints x.B.Head.Keys.Lst,I x.B.Head.Keys.Need,ints x.B.Head.Heirs.Lst,I x.B.Head.Heirs.Need,I x.B.Head.Wait,ints x.B.Head.Judge.Lst,I x.B.Head.Judge.Need,.bool x.B.Head.Frozen,.list 2 (x.B.Sigs.map xcp)]) rfl rfl rfl (wr1 (by omega) (by omega)) (xda rfl rfl e2 rfl (xcO (by omega) (by omega)) (xbj rfl rfl rfl (wr1 (by omega) (by omega)) (xbj rfl rfl rfl (wr1 (by omega) (by omega)) (xda rfl rfl e3 rfl (xcO (by omega) (by omega)) (xbj (r1:=[I (k),I (k+1),I (k+1+1),I (k+1+1+1),I (k+1+1+1+1),I (k+1+1+1+1+1),I (k+1+1+1+1+1+1),I (k+1+1+1+1+1+1+1),p1,I (k1),p2,I (k2),I (k2+1),p3,I (k3),.bool x.Before.Head.Frozen,.list 2 (x.Before.Sigs.map xcp),I x.A.Head.Zone,I x.A.Head.Epoch,I x.A.Head.Kind,I x.A.Head.Time,I x.A.Head.Until,I x.A.Head.Count,I x.A.Head.Root,I x.A.Head.Prev,ints x.A.Head.Keys.Lst,I x.A.Head.Keys.Need,ints x.A.Head.Heirs.Lst,I x.A.Head.Heirs.Need,I x.A.Head.Wait,ints x.A.Head.Judge.Lst,I x.A.Head.Judge.Need,.bool x.A.Head.Frozen,.list 2 (x.A.Sigs.map xcp),I x.B.Head.Zone,I x.B.Head.Epoch,I x.B.Head.Kind,I x.B.Head.Time,I x.B.Head.Until,I x.B.Head.Count,I x.B.Head.Root,I x.B.Head.Prev,ints x.B.Head.Keys.Lst,I x.B.Head.Keys.Need,ints x.B.Head.Heirs.Lst,I x.B.Head.Heirs.Need,I x.B.Head.Wait,ints x.B.Head.Judge.Lst,I x.B.Head.Judge.Need,.bool x.B.Head.Frozen,.list 2 (x.B.Sigs.map xcp)]) rfl rfl rfl (wr1 (by omega) (by omega)) (xbj rfl rfl rfl (wr1 (by omega) (by omega)) (xda rfl rfl e4 rfl (xcO (by omega) (by omega)) (xbj rfl rfl rfl (wr1 (by omega) (by omega)) (xbj rfl rfl rfl (wr1 (by omega) (by omega)) (xbj (r1:=[I (k),I (k+1),I (k+1+1),I (k+1+1+1),I (k+1+1+1+1),I (k+1+1+1+1+1),I (k+1+1+1+1+1+1),I (k+1+1+1+1+1+1+1),p1,I (k1),p2,I (k2),I (k2+1),p3,I (k3),.bool ((k3+1).tmod 3==0),p4,I (k4),I (k4+1),I (k4+1+1),I x.A.Head.Time,I x.A.Head.Until,I x.A.Head.Count,I x.A.Head.Root,I x.A.Head.Prev,ints x.A.Head.Keys.Lst,I x.A.Head.Keys.Need,ints x.A.Head.Heirs.Lst,I x.A.Head.Heirs.Need,I x.A.Head.Wait,ints x.A.Head.Judge.Lst,I x.A.Head.Judge.Need,.bool x.A.Head.Frozen,.list 2 (x.A.Sigs.map xcp),I x.B.Head.Zone,I x.B.Head.Epoch,I x.B.Head.Kind,I x.B.Head.Time,I x.B.Head.Until,I x.B.Head.Count,I x.B.Head.Root,I x.B.Head.Prev,ints x.B.Head.Keys.Lst,I x.B.Head.Keys.Need,ints x.B.Head.Heirs.Lst,I x.B.Head.Heirs.Need,I x.B.Head.Wait,ints x.B.Head.Judge.Lst,I x.B.Head.Judge.Need,.bool x.B.Head.Frozen,.list 2 (x.B.Sigs.map xcp)]) rfl rfl rfl (wr1 (by omega) (by omega)) (xbj rfl rfl rfl (wr1 (by omega) (by omega)) (xbj rfl rfl rfl (wr1 (by omega) (by omega)) (xbj rfl rfl rfl (wr1 (by omega) (by omega)) (xbj rfl rfl rfl (wr1 (by omega) (by omega)) (xbj (r1:=[I (k),I (k+1),I (k+1+1),I (k+1+1+1),I (k+1+1+1+1),I (k+1+1+1+1+1),I (k+1+1+1+1+1+1),I (k+1+1+1+1+1+1+1),p1,I (k1),p2,I (k2),I (k2+1),p3,I (k3),.bool ((k3+1).tmod 3==0),p4,I (k4),I (k4+1),I (k4+1+1),I (k4+1+1+1),I (k4+1+1+1+1),I (k4+1+1+1+1+1),I (k4+1+1+1+1+1+1),I (k4+1+1+1+1+1+1+1),ints x.A.Head.Keys.Lst,I x.A.Head.Keys.Need,ints x.A.Head.Heirs.Lst,I x.A.Head.Heirs.Need,I x.A.Head.Wait,ints x.A.Head.Judge.Lst,I x.A.Head.Judge.Need,.bool x.A.Head.Frozen,.list 2 (x.A.Sigs.map xcp),I x.B.Head.Zone,I x.B.Head.Epoch,I x.B.Head.Kind,I x.B.Head.Time,I x.B.Head.Until,I x.B.Head.Count,I x.B.Head.Root,I x.B.Head.Prev,ints x.B.Head.Keys.Lst,I x.B.Head.Keys.Need,ints x.B.Head.Heirs.Lst,I x.B.Head.Heirs.Need,I x.B.Head.Wait,ints x.B.Head.Judge.Lst,I x.B.Head.Judge.Need,.bool x.B.Head.Frozen,.list 2 (x.B.Sigs.map xcp)]) rfl rfl rfl (wr1 (by omega) (by omega)) (xda rfl rfl e5 rfl (xcO (by omega) (by omega)) (xbj rfl rfl rfl (wr1 (by omega) (by omega)) (xda rfl rfl e6 rfl (xcO (by omega) (by omega)) (xbj rfl rfl rfl (wr1 (by omega) (by omega)) (xbj (r1:=[I (k),I (k+1),I (k+1+1),I (k+1+1+1),I (k+1+1+1+1),I (k+1+1+1+1+1),I (k+1+1+1+1+1+1),I (k+1+1+1+1+1+1+1),p1,I (k1),p2,I (k2),I (k2+1),p3,I (k3),.bool ((k3+1).tmod 3==0),p4,I (k4),I (k4+1),I (k4+1+1),I (k4+1+1+1),I (k4+1+1+1+1),I (k4+1+1+1+1+1),I (k4+1+1+1+1+1+1),I (k4+1+1+1+1+1+1+1),p5,I (k5),p6,I (k6),I (k6+1),ints x.A.Head.Judge.Lst,I x.A.Head.Judge.Need,.bool x.A.Head.Frozen,.list 2 (x.A.Sigs.map xcp),I x.B.Head.Zone,I x.B.Head.Epoch,I x.B.Head.Kind,I x.B.Head.Time,I x.B.Head.Until,I x.B.Head.Count,I x.B.Head.Root,I x.B.Head.Prev,ints x.B.Head.Keys.Lst,I x.B.Head.Keys.Need,ints x.B.Head.Heirs.Lst,I x.B.Head.Heirs.Need,I x.B.Head.Wait,ints x.B.Head.Judge.Lst,I x.B.Head.Judge.Need,.bool x.B.Head.Frozen,.list 2 (x.B.Sigs.map xcp)]) rfl rfl rfl (wr1 (by omega) (by omega)) (xda rfl rfl e7 rfl (xcO (by omega) (by omega)) (xbj rfl rfl rfl (wr1 (by omega) (by omega)) (xbj rfl rfl rfl (wr1 (by omega) (by omega)) (xda rfl rfl e8 rfl (xcO (by omega) (by omega)) (xbj (r1:=[I (k),I (k+1),I (k+1+1),I (k+1+1+1),I (k+1+1+1+1),I (k+1+1+1+1+1),I (k+1+1+1+1+1+1),I (k+1+1+1+1+1+1+1),p1,I (k1),p2,I (k2),I (k2+1),p3,I (k3),.bool ((k3+1).tmod 3==0),p4,I (k4),I (k4+1),I (k4+1+1),I (k4+1+1+1),I (k4+1+1+1+1),I (k4+1+1+1+1+1),I (k4+1+1+1+1+1+1),I (k4+1+1+1+1+1+1+1),p5,I (k5),p6,I (k6),I (k6+1),p7,I (k7),.bool ((k7+1).tmod 3==0),p8,I (k8),I x.B.Head.Epoch,I x.B.Head.Kind,I x.B.Head.Time,I x.B.Head.Until,I x.B.Head.Count,I x.B.Head.Root,I x.B.Head.Prev,ints x.B.Head.Keys.Lst,I x.B.Head.Keys.Need,ints x.B.Head.Heirs.Lst,I x.B.Head.Heirs.Need,I x.B.Head.Wait,ints x.B.Head.Judge.Lst,I x.B.Head.Judge.Need,.bool x.B.Head.Frozen,.list 2 (x.B.Sigs.map xcp)]) rfl rfl rfl (wr1 (by omega) (by omega)) (xbj rfl rfl rfl (wr1 (by omega) (by omega)) (xbj rfl rfl rfl (wr1 (by omega) (by omega)) (xbj rfl rfl rfl (wr1 (by omega) (by omega)) (xbj rfl rfl rfl (wr1 (by omega) (by omega)) (xbj (r1:=[I (k),I (k+1),I (k+1+1),I (k+1+1+1),I (k+1+1+1+1),I (k+1+1+1+1+1),I (k+1+1+1+1+1+1),I (k+1+1+1+1+1+1+1),p1,I (k1),p2,I (k2),I (k2+1),p3,I (k3),.bool ((k3+1).tmod 3==0),p4,I (k4),I (k4+1),I (k4+1+1),I (k4+1+1+1),I (k4+1+1+1+1),I (k4+1+1+1+1+1),I (k4+1+1+1+1+1+1),I (k4+1+1+1+1+1+1+1),p5,I (k5),p6,I (k6),I (k6+1),p7,I (k7),.bool ((k7+1).tmod 3==0),p8,I (k8),I (k8+1),I (k8+1+1),I (k8+1+1+1),I (k8+1+1+1+1),I (k8+1+1+1+1+1),I x.B.Head.Root,I x.B.Head.Prev,ints x.B.Head.Keys.Lst,I x.B.Head.Keys.Need,ints x.B.Head.Heirs.Lst,I x.B.Head.Heirs.Need,I x.B.Head.Wait,ints x.B.Head.Judge.Lst,I x.B.Head.Judge.Need,.bool x.B.Head.Frozen,.list 2 (x.B.Sigs.map xcp)]) rfl rfl rfl (wr1 (by omega) (by omega)) (xbj rfl rfl rfl (wr1 (by omega) (by omega)) (xbj rfl rfl rfl (wr1 (by omega) (by omega)) (xda rfl rfl e9 rfl (xcO (by omega) (by omega)) (xbj rfl rfl rfl (wr1 (by omega) (by omega)) (xda (r1:=[I (k),I (k+1),I (k+1+1),I (k+1+1+1),I (k+1+1+1+1),I (k+1+1+1+1+1),I (k+1+1+1+1+1+1),I (k+1+1+1+1+1+1+1),p1,I (k1),p2,I (k2),I (k2+1),p3,I (k3),.bool ((k3+1).tmod 3==0),p4,I (k4),I (k4+1),I (k4+1+1),I (k4+1+1+1),I (k4+1+1+1+1),I (k4+1+1+1+1+1),I (k4+1+1+1+1+1+1),I (k4+1+1+1+1+1+1+1),p5,I (k5),p6,I (k6),I (k6+1),p7,I (k7),.bool ((k7+1).tmod 3==0),p8,I (k8),I (k8+1),I (k8+1+1),I (k8+1+1+1),I (k8+1+1+1+1),I (k8+1+1+1+1+1),I (k8+1+1+1+1+1+1),I (k8+1+1+1+1+1+1+1),p9,I (k9),p10,I x.B.Head.Heirs.Need,I x.B.Head.Wait,ints x.B.Head.Judge.Lst,I x.B.Head.Judge.Need,.bool x.B.Head.Frozen,.list 2 (x.B.Sigs.map xcp)]) rfl rfl e10 rfl (xcO (by omega) (by omega)) (xbj rfl rfl rfl (wr1 (by omega) (by omega)) (xbj rfl rfl rfl (wr1 (by omega) (by omega)) (xda rfl rfl e11 rfl (xcO (by omega) (by omega)) (xbj rfl rfl rfl (wr1 (by omega) (by omega)) (xbj (r1:=[I (k),I (k+1),I (k+1+1),I (k+1+1+1),I (k+1+1+1+1),I (k+1+1+1+1+1),I (k+1+1+1+1+1+1),I (k+1+1+1+1+1+1+1),p1,I (k1),p2,I (k2),I (k2+1),p3,I (k3),.bool ((k3+1).tmod 3==0),p4,I (k4),I (k4+1),I (k4+1+1),I (k4+1+1+1),I (k4+1+1+1+1),I (k4+1+1+1+1+1),I (k4+1+1+1+1+1+1),I (k4+1+1+1+1+1+1+1),p5,I (k5),p6,I (k6),I (k6+1),p7,I (k7),.bool ((k7+1).tmod 3==0),p8,I (k8),I (k8+1),I (k8+1+1),I (k8+1+1+1),I (k8+1+1+1+1),I (k8+1+1+1+1+1),I (k8+1+1+1+1+1+1),I (k8+1+1+1+1+1+1+1),p9,I (k9),p10,I (k10),I (k10+1),p11,I (k11),.bool ((k11+1).tmod 3==0),.list 2 (x.B.Sigs.map xcp)]) rfl rfl rfl (wr1 (by omega) (by omega)) (xda rfl rfl e12 rfl (xcO (by omega) (by omega)) (rfl))))))))))))))))))))))))))))))))))))))))))))))))))),by omega,by omega,fun rows i K z hr hi hn=>?_⟩
  have f0:=wr1 (k:=k) (by omega) (by omega)
  have f1:=wr1 (k:=k+1) (by omega) (by omega)
  have f2:=wr1 (k:=k+1+1) (by omega) (by omega)
  have f3:=wr1 (k:=k+1+1+1) (by omega) (by omega)
  have f4:=wr1 (k:=k+1+1+1+1) (by omega) (by omega)
  have f5:=wr1 (k:=k+1+1+1+1+1) (by omega) (by omega)
  have f6:=wr1 (k:=k+1+1+1+1+1+1) (by omega) (by omega)
  have f7:=wr1 (k:=k+1+1+1+1+1+1+1) (by omega) (by omega)
  have f9:¬(k1<0):=by omega
  have f10:=wr1 (k:=k1) (by omega) (by omega)
  have f12:¬(k2<0):=by omega
  have f13:=wr1 (k:=k2) (by omega) (by omega)
  have f14:=wr1 (k:=k2+1) (by omega) (by omega)
  have f16:¬(k3<0):=by omega
  have f17:=wr1 (k:=k3) (by omega) (by omega)
  have f18:=wr1 (k:=k3+1) (by omega) (by omega)
  have f20:¬(k4<0):=by omega
  have f21:=wr1 (k:=k4) (by omega) (by omega)
  have f22:=wr1 (k:=k4+1) (by omega) (by omega)
  have f23:=wr1 (k:=k4+1+1) (by omega) (by omega)
  have f24:=wr1 (k:=k4+1+1+1) (by omega) (by omega)
  have f25:=wr1 (k:=k4+1+1+1+1) (by omega) (by omega)
  have f26:=wr1 (k:=k4+1+1+1+1+1) (by omega) (by omega)
  have f27:=wr1 (k:=k4+1+1+1+1+1+1) (by omega) (by omega)
  have f28:=wr1 (k:=k4+1+1+1+1+1+1+1) (by omega) (by omega)
  have f30:¬(k5<0):=by omega
  have f31:=wr1 (k:=k5) (by omega) (by omega)
  have f33:¬(k6<0):=by omega
  have f34:=wr1 (k:=k6) (by omega) (by omega)
  have f35:=wr1 (k:=k6+1) (by omega) (by omega)
  have f37:¬(k7<0):=by omega
  have f38:=wr1 (k:=k7) (by omega) (by omega)
  have f39:=wr1 (k:=k7+1) (by omega) (by omega)
  have f41:¬(k8<0):=by omega
  have f42:=wr1 (k:=k8) (by omega) (by omega)
  have f43:=wr1 (k:=k8+1) (by omega) (by omega)
  have f44:=wr1 (k:=k8+1+1) (by omega) (by omega)
  have f45:=wr1 (k:=k8+1+1+1) (by omega) (by omega)
  have f46:=wr1 (k:=k8+1+1+1+1) (by omega) (by omega)
  have f47:=wr1 (k:=k8+1+1+1+1+1) (by omega) (by omega)
  have f48:=wr1 (k:=k8+1+1+1+1+1+1) (by omega) (by omega)
  have f49:=wr1 (k:=k8+1+1+1+1+1+1+1) (by omega) (by omega)
  have f51:¬(k9<0):=by omega
  have f52:=wr1 (k:=k9) (by omega) (by omega)
  have f54:¬(k10<0):=by omega
  have f55:=wr1 (k:=k10) (by omega) (by omega)
  have f56:=wr1 (k:=k10+1) (by omega) (by omega)
  have f58:¬(k11<0):=by omega
  have f59:=wr1 (k:=k11) (by omega) (by omega)
  have f60:=wr1 (k:=k11+1) (by omega) (by omega)
  have f62:¬(k12<0):=by omega
  have hlt:(i:Int)<(rows.length:Int):=by omega
  simp only [Qhl_r0,heldForkS_a,heldForkS_p0,heldForkS_p1,heldForkS_p2,heldForkS_p3,heldForkS_p4,heldForkS_p5,heldForkS_z,heldForkS_q6,heldForkS_q5,heldForkS_q4,heldForkS_q3,heldForkS_q2,heldForkS_q1,heldForkS_q0,un,cur0,xay,xao,hlt,decide_true,decide_false,xah,if_true,xd8 hr,xag,xbq,xbU,bne_self_eq_false,Bool.false_eq_true,if_false,xbb,xeb,Bool.not_true,xcq,xaI,xdB,f0,f1,f2,f3,f4,f5,f6,f7,g1,f9,f10,g2,f12,f13,f14,g3,f16,f17,f18,g4,f20,f21,f22,f23,f24,f25,f26,f27,f28,g5,f30,f31,g6,f33,f34,f35,g7,f37,f38,f39,g8,f41,f42,f43,f44,f45,f46,f47,f48,f49,g9,f51,f52,g10,f54,f55,f56,g11,f58,f59,f60,g12,f62,xal (show i<1000000000000000000 by omega),true_and,ne_eq,not_false_eq_true]
  simp
 obtain ⟨rows',k',p1,p2,p3,p4,p5⟩:=xbY xbk (fun x:xcb=>xcu x) 51 l (hrow True fun _ _ _ _=>True) k h0 (by omega)
 have hle:(l.length:Int)≤1000000000000000:=by omega
 refine ⟨.list 51 rows',k',?_,p3,p4,fun K=>?_⟩
 ·exact xdj (by rw [List.length_map];omega) p1
 ·refine (xaa (fun K=>?_) K)
  obtain ⟨rows2,k2,r1,r2,r3,r4,r5⟩:=xbY xbk (fun x:xcb=>xcu x) 51 l (hrow (rt [.sc] [(I (-1))] K) fun q6 q7 q8 q9=>rt [.sc] [q7] K) k h0 (by omega)
  have hs:=p1.symm.trans r1
  injection hs with hs;injection hs with hs1 hs2
  subst hs1;subst hs2
  have:=r5 [] (I 0) (K [I k']) (by rw [List.nil_append,p2];omega) fun K2=>by
   simp only [Qhl_r0,heldForkS_a,heldForkS_p0,heldForkS_p1,heldForkS_p2,heldForkS_p3,heldForkS_p4,heldForkS_p5,heldForkS_z,heldForkS_q6,heldForkS_q5,heldForkS_q4,heldForkS_q3,heldForkS_q2,heldForkS_q1,heldForkS_q0,un,cur0,xay,xao,Int.lt_irrefl,decide_false,xah,Bool.false_eq_true,if_false,List.nil_append,xau,xap,xaj,xas,true_and]
  exact this
theorem xhW (a:xaR) (k:Int) (h0:0≤k) (hb:k+40*((xbK a:Nat):Int)≤1000000000000000):∃c_1 c_2 k',mk_Known (xbN a) k=some ([c_1,c_2],k')∧k≤k'∧k'≤k+40*((xbK a:Nat):Int)∧∀K,call Qhm [.agg [c_1,c_2],.one (I k)] K=K [I k']:=by
 simp only [xbK] at hb ⊢
 obtain ⟨p1,k1,e1,l1,u1,g1⟩:=xiG a.Chains (k) (by omega) (by omega)
 obtain ⟨p2,k2,e2,l2,u2,g2⟩:=xl2 a.Forks (k1) (by omega) (by omega)
 refine ⟨p1,p2,k2,?_,by omega,by omega,fun K=>xaa (fun K=>?_) K⟩
 ·exact xoK rfl (xda rfl rfl e1 rfl (xcO (by omega) (by omega)) (xda rfl rfl e2 rfl (xcO (by omega) (by omega)) (rfl)))
 ·have f1:¬(k1<0):=by omega
  have f2:¬(k2<0):=by omega
  simp only [Qhm,un,cur0,g1,g2,f1,f2,xag,xao,decide_false,xah,Bool.false_eq_true,if_false,xau,xap,xaj,xas,true_and]
theorem xfZ (l:List ByteArray) (k:Int) (h0:0≤k) (hb:k+40*(((l.length+xbd ByteArray.size l):Nat):Int)≤1000000000000000):∃p k',mk_StringS (strs l) k=some (p,k')∧k≤k'∧k'≤k+40*(((l.length+xbd ByteArray.size l):Nat):Int)∧∀K,call Qhj [.one p,.one (I k)] K=K [I k']:=by
 have hm:((l.length+xbd ByteArray.size l):Nat)=l.length+xbd (fun x:ByteArray=>x.size) l:=rfl
 rw [hm] at hb ⊢
 have hrow:∀(A:Prop) (B:PV→PV→PV→PV→Prop),∀x∈l,∀k,0≤k→k+40*(1+((fun x:ByteArray=>x.size) x:Int))≤1000000000000000→∃r' k',xct mk_StringS_r mtx mk_StringS_s (rS x) k=some (r',k')∧k≤k'∧k'≤k+40*(1+((fun x:ByteArray=>x.size) x:Int))∧∀(rows:List (List PV)) (i:Nat) K z,rows[i]? = some r'→i<rows.length→rows.length≤1000000000000000→((fun L w=>Qhj_r0 w L A B) K [.list 1 rows,I k,z,I i]↔K [.list 1 rows,I k',z,I ((i:Int)+1)]):=by
  intro A B x hx k h0 hb
  have hle:(l.length:Int)≤1000000000000000:=by omega
  clear hle
  try dsimp only at hb ⊢
  have hb0:=hb
  refine ⟨[.str (mtx (k))],k+1,xbj rfl rfl rfl (wr1 (by omega) (by omega)) (rfl),by omega,by omega,fun rows i K z hr hi hn=>?_⟩
  have f0:=wr1 (k:=k) (by omega) (by omega)
  have f1:=laws_markText_n (k) (xcO (by omega) (by omega))
  have hlt:(i:Int)<(rows.length:Int):=by omega
  simp only [Qhj_r0,un,cur0,xay,xao,hlt,decide_true,decide_false,xah,if_true,xd8 hr,xag,xbq,xbU,bne_self_eq_false,Bool.false_eq_true,if_false,xbb,xeb,Bool.not_true,xcq,xaI,xdB,f0,f1,xal (show i<1000000000000000000 by omega),true_and,ne_eq,not_false_eq_true]
 obtain ⟨rows',k',p1,p2,p3,p4,p5⟩:=xbY rS (fun x:ByteArray=>x.size) 1 l (hrow True fun _ _ _ _=>True) k h0 (by omega)
 have hle:(l.length:Int)≤1000000000000000:=by omega
 refine ⟨.list 1 rows',k',?_,p3,p4,fun K=>?_⟩
 ·exact xdj (by rw [List.length_map];omega) p1
 ·refine (xaa (fun K=>?_) K)
  obtain ⟨rows2,k2,r1,r2,r3,r4,r5⟩:=xbY rS (fun x:ByteArray=>x.size) 1 l (hrow (rt [.sc] [(I (-1))] K) fun q6 q7 q8 q9=>rt [.sc] [q7] K) k h0 (by omega)
  have hs:=p1.symm.trans r1
  injection hs with hs;injection hs with hs1 hs2
  subst hs1;subst hs2
  have:=r5 [] (I 0) (K [I k']) (by rw [List.nil_append,p2];omega) fun K2=>by
   simp only [Qhj_r0,un,cur0,xay,xao,Int.lt_irrefl,decide_false,xah,Bool.false_eq_true,if_false,List.nil_append,xau,xap,xaj,xas,true_and]
  exact this
theorem xkQ (l:List xav) (k:Int) (h0:0≤k) (hb:k+40*((xbh l:Nat):Int)≤1000000000000000):∃p k',mk_EntryS (.list 4 (l.map xaF)) k=some (p,k')∧k≤k'∧k'≤k+40*((xbh l:Nat):Int)∧True:=by
 have hm:xbh l=l.length+xbd (fun x:xav=>xaz x) l:=rfl
 rw [hm] at hb ⊢
 have hrow:∀x∈l,∀k,0≤k→k+40*(1+((fun x:xav=>xaz x) x:Int))≤1000000000000000→∃r' k',xct mk_EntryS_r mtx mk_EntryS_s (xaF x) k=some (r',k')∧k≤k'∧k'≤k+40*(1+((fun x:xav=>xaz x) x:Int)):=by
  intro x hx k h0 hb
  have hle:(l.length:Int)≤1000000000000000:=by omega
  clear hle
  try dsimp only at hb ⊢
  simp only [xaz] at hb ⊢
  obtain ⟨p1,k1,e1,l1,u1,g1⟩:=xfZ x.Path (k+1+1+1) (by omega) (by omega)
  exact ⟨[.str (mtx (k)),I (k+1),I (k+1+1),p1],k1,xbj rfl rfl rfl (wr1 (by omega) (by omega)) (xbj rfl rfl rfl (wr1 (by omega) (by omega)) (xbj rfl rfl rfl (wr1 (by omega) (by omega)) (xda rfl rfl e1 rfl (xcO (by omega) (by omega)) (rfl)))),by omega,by omega⟩
 obtain ⟨rows',k',p1,p3,p4⟩:=xe1 xaF (fun x:xav=>xaz x) l hrow k h0 (by omega)
 exact ⟨.list 4 rows',k',xdj (by rw [List.length_map];omega) p1,p3,p4,trivial⟩
theorem xl1 (l:List xb4) (k:Int) (h0:0≤k) (hb:k+40*((xb7 l:Nat):Int)≤1000000000000000):∃p k',mk_ZoneS (.list 2 (l.map xcx)) k=some (p,k')∧k≤k'∧k'≤k+40*((xb7 l:Nat):Int)∧True:=by
 have hm:xb7 l=l.length+xbd (fun x:xb4=>xbZ x) l:=rfl
 rw [hm] at hb ⊢
 have hrow:∀x∈l,∀k,0≤k→k+40*(1+((fun x:xb4=>xbZ x) x:Int))≤1000000000000000→∃r' k',xct mk_ZoneS_r mtx mk_ZoneS_s (xcx x) k=some (r',k')∧k≤k'∧k'≤k+40*(1+((fun x:xb4=>xbZ x) x:Int)):=by
  intro x hx k h0 hb
  have hle:(l.length:Int)≤1000000000000000:=by omega
  clear hle
  try dsimp only at hb ⊢
  simp only [xbZ] at hb ⊢
  obtain ⟨p1,k1,e1,l1,u1,g1⟩:=xf0 x.Chain (k) (by omega) (by omega)
  obtain ⟨p2,k2,e2,l2,u2,g2⟩:=xkQ x.Entries (k1) (by omega) (by omega)
  exact ⟨[p1,p2],k2,xda rfl rfl e1 rfl (xcO (by omega) (by omega)) (xda rfl rfl e2 rfl (xcO (by omega) (by omega)) (rfl)),by omega,by omega⟩
 obtain ⟨rows',k',p1,p3,p4⟩:=xe1 xcx (fun x:xb4=>xbZ x) l hrow k h0 (by omega)
 exact ⟨.list 2 rows',k',xdj (by rw [List.length_map];omega) p1,p3,p4,trivial⟩
theorem xjU (l:List xaS) (k:Int) (h0:0≤k) (hb:k+40*((xcl l:Nat):Int)≤1000000000000000):∃p k',mk_ServerS (.list 2 (l.map xaU)) k=some (p,k')∧k≤k'∧k'≤k+40*((xcl l:Nat):Int)∧True:=by
 have hm:xcl l=l.length+xbd (fun x:xaS=>xaX x) l:=rfl
 rw [hm] at hb ⊢
 have hrow:∀x∈l,∀k,0≤k→k+40*(1+((fun x:xaS=>xaX x) x:Int))≤1000000000000000→∃r' k',xct mk_ServerS_r mtx mk_ServerS_s (xaU x) k=some (r',k')∧k≤k'∧k'≤k+40*(1+((fun x:xaS=>xaX x) x:Int)):=by
  intro x hx k h0 hb
  have hle:(l.length:Int)≤1000000000000000:=by omega
  clear hle
  try dsimp only at hb ⊢
  simp only [xaX] at hb ⊢
  obtain ⟨p1,k1,e1,l1,u1,g1⟩:=xl1 x.Zones (k) (by omega) (by omega)
  exact ⟨[p1,I (k1)],k1+1,xda rfl rfl e1 rfl (xcO (by omega) (by omega)) (xbj rfl rfl rfl (wr1 (by omega) (by omega)) (rfl)),by omega,by omega⟩
 obtain ⟨rows',k',p1,p3,p4⟩:=xe1 xaU (fun x:xaS=>xaX x) l hrow k h0 (by omega)
 exact ⟨.list 2 rows',k',xdj (by rw [List.length_map];omega) p1,p3,p4,trivial⟩
theorem xl3 (a:xav) (k:Int) (h0:0≤k) (hb:k+40*((xaz a:Nat):Int)≤1000000000000000):∃c_1 k',mk_Entry (xaF a) k=some ([.str a.Label,I a.Kind,I a.Value,c_1],k')∧k≤k'∧k'≤k+40*((xaz a:Nat):Int)∧∀K,call Qku [.agg [.str a.Label,I a.Kind,I a.Value,c_1],.one (I k)] K=K [I k']:=by
 simp only [xaz] at hb ⊢
 obtain ⟨p1,k1,e1,l1,u1,g1⟩:=xfZ a.Path (k) (by omega) (by omega)
 refine ⟨p1,k1,?_,by omega,by omega,fun K=>xaa (fun K=>?_) K⟩
 ·exact xoK rfl (xda rfl rfl e1 rfl (xcO (by omega) (by omega)) (rfl))
 ·have f1:¬(k1<0):=by omega
  simp only [Qku,un,cur0,g1,f1,xag,xao,decide_false,xah,Bool.false_eq_true,if_false,xau,xap,xaj,xas,true_and]
theorem xnB (a:xn2) (k:Int) (h0:0≤k) (hb:k+40*((xnC a:Nat):Int)≤1000000000000000):∃c_1_1 c_1_2 c_2_1 c_3 k',mk_Look (xga a) k=some ([c_1_1,c_1_2,.bool a.Found,.str a.Entry.Label,I a.Entry.Kind,I a.Entry.Value,c_2_1,.bool a.Done,c_3],k')∧k≤k'∧k'≤k+40*((xnC a:Nat):Int)∧∀K,call Qkv [.agg [c_1_1,c_1_2,.bool a.Found,.str a.Entry.Label,I a.Entry.Kind,I a.Entry.Value,c_2_1,.bool a.Done,c_3],.one (I k)] K=K [I k']:=by
 simp only [xnC] at hb ⊢
 obtain ⟨p1_1,p1_2,k1,e1,l1,u1,g1⟩:=xhW a.Known (k) (by omega) (by omega)
 obtain ⟨p2_1,k2,e2,l2,u2,g2⟩:=xl3 a.Entry (k1) (by omega) (by omega)
 obtain ⟨p3,k3,e3,l3,u3,g3⟩:=xbJ a.Codes (k2) (by omega) (by omega)
 refine ⟨p1_1,p1_2,p2_1,p3,k3,?_,by omega,by omega,fun K=>xaa (fun K=>?_) K⟩
 ·exact xoK rfl (xtt (Nat.le_of_ble_eq_true rfl) rfl rfl e1 rfl (xcO (by omega) (by omega)) (xtt (Nat.le_of_ble_eq_true rfl) rfl rfl e2 rfl (xcO (by omega) (by omega)) (xda rfl rfl e3 rfl (xcO (by omega) (by omega)) (rfl))))
 ·have f1:¬(k1<0):=by omega
  have f2:¬(k2<0):=by omega
  have f3:¬(k3<0):=by omega
  simp only [Qkv,un,cur0,g1,g2,g3,f1,f2,f3,xag,xao,decide_false,xah,Bool.false_eq_true,if_false,xau,xap,xaj,xas,true_and]
end Go.Ev
