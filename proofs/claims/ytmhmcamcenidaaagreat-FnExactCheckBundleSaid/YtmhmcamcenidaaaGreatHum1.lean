/- What each function hands back, and that the law answers true, part 1. -/
import Derived.Test.YtmhmcamcenidaaaGreatFn5
set_option linter.unusedVariables false
set_option linter.unusedSimpArgs false
set_option maxHeartbeats 1000000
set_option maxRecDepth 10000
namespace Go.Ev
open Go.Proofs
theorem xcs {s t:Nat} {left:Int} (h:(s:Int)≤left):szr (s+t) left=szr t (left-s):=by
 unfold szr
 by_cases h1:(t:Int)≤left-s
 ·rw [if_pos h1,if_pos (by omega)];omega
 ·rw [if_neg h1,if_neg (by omega)]
theorem xa6 {s t:Nat} {left:Int} (h:¬(s:Int)≤left):szr (s+t) left=-1:=by unfold szr;rw [if_neg (by omega)]
theorem xaw {s:Nat} {left:Int} (h:¬(s:Int)≤left):szr s left=-1:=by unfold szr;rw [if_neg h]
theorem xbe {s:Nat} {left:Int} (h:(s:Int)≤left):szr s left=left-s:=by unfold szr;rw [if_pos h]
theorem xbO {α:Type} {s:α→Nat} {x:α}:∀{l:List α},x∈l→s x≤xbn s l
 | y::l,h=>by
  rw [show xbn s (y::l)=s y+xbn s l from rfl]
  rcases List.mem_cons.1 h with rfl | h
  ·omega
  ·have:=xbO (s:=s) h;omega
theorem xhd {p:PV} (hp:Sh.has (.list [.str]) p):∃l:List ByteArray,p=strs l∧(l.length≤maxLen∧∀y∈l,y.size≤maxLen):=by
 obtain ⟨l,h1,h2,h3⟩:=xh1 (enc:=rS) (wf:=fun y=>y.size≤maxLen) (fun r hr=>by
  obtain ⟨p,rfl,h⟩:=xfC hr
  obtain ⟨n,rfl,g⟩:=xh0 h
  exact ⟨n,rfl,g⟩) 1 rfl hp
 exact ⟨l,h1,h2,h3⟩
theorem xt5 (l:List Int) (left:Int) (hw:l.length≤maxLen) (h2:0≤left) (h3:left≤1048576) (k):call Qab [.one (ints l),.one (I left)] k=k [I (szr l.length left)]:=xaa (fun k=>by
 simp only [Qab,xaG,List.length_map,xbP,xep hw h2 h3,xan,xah,xav,xam,xai,xao,true_and,and_true]
 by_cases c:(l.length:Int)≤left
 ·simp [xbe c,show ¬(left-(l.length:Int)<0) by omega]
 ·simp [xaw c,show left-(l.length:Int)<0 by omega]) k
theorem xt3 (l:List Int) (h:l.length≤1048576) (k):call Qao [.one (ints l)] k=k [ints l]:=xaa (fun k=>by
 have hm:=h
 simp [Qao,show l.length<1073741824 by omega]
 refine xkF l rI rI [I 0] 1 1 (.list 1 []) rfl (fun i x hx hi K rows hr hz=>?_) fun K=>?_
 ·simp [-getElem?_pos,Qao_r0,hx,hi,hr,hz,over,xap (show i<1000000000000000000 by omega)]
 ·simp [Qao_r0]) k
theorem xtM (l:List Int) (h:l.length≤1048576) (k):call Qgj [.one (ints l),.one (ints l)] k=k [.bool true]:=xaa (fun k=>by
 have hm:=h
 simp [Qgj]
 refine xez l rI 1 (.bool false) rfl (fun i x hx hi K=>?_) fun K=>?_
 ·simp [-getElem?_pos,Qgj_r0,hx,hi,xap (show i<1000000000000000000 by omega)]
 ·simp [Qgj_r0]) k
theorem xt4 (l:List ByteArray) (left:Int) (hw:(l.length≤maxLen∧∀y∈l,y.size≤maxLen)) (h2:0≤left) (h3:left≤1048576) (k):call Qah [.one (strs l),.one (I left)] k=k [I (szr ((l.length+xbn ByteArray.size l)) left)]:=xaa (fun k=>by
 simp only [Qah,xaG,List.length_map,xbP,xep hw.1 h2 h3,xan,xah,xav,xam,xai,xao,true_and,and_true]
 by_cases c:(l.length:Int)≤left
 rotate_left
 ·simp [xa6 c,show left-(l.length:Int)<0 by omega]
 simp only [xcs c,show ¬(left-(l.length:Int)<0) by omega,decide_false,Bool.false_eq_true,if_false]
 refine (xrP (neg:=k [I (-1)]) (fin:=fun t=>k [I t]) l rS 1 ByteArray.size (left-(l.length:Int)) (I 0) (by omega) (by omega) rfl (fun i x hx hi t ht1 ht2 K=>?_) fun t K=>?_).trans ?_
 ·have e:=xep (left:=t) (hw.2 x (List.mem_of_getElem? hx)) ht1 ht2
  simp [-getElem?_pos,Qah_r0,hx,hi,e,xap (show i<1000000000000000000 by have:=hw.1;omega)]
  by_cases hs:(x.size:Int)≤t
  ·simp [hs,show ¬(t-(x.size:Int)<0) by omega]
  ·simp [hs,show t-(x.size:Int)<0 by omega]
 ·simp [Qah_r0]
 ·by_cases hs:((xbn ByteArray.size l:Nat):Int)≤left-(l.length:Int)
  ·simp [xbe hs,hs]
  ·simp [xaw hs,hs]) k
theorem xt2 (l:List ByteArray) (h:(l.length+xbn ByteArray.size l)≤1048576) (k):call Qav [.one (strs l)] k=k [strs l]:=xaa (fun k=>by
 have hm:=h
 simp [Qav,show l.length<1073741824 by omega]
 refine xkF l rS rS [.str ⟨#[]⟩] 1 1 (.list 1 []) rfl (fun i x hx hi K rows hr hz=>?_) fun K=>?_
 ·simp [-getElem?_pos,Qav_r0,hx,hi,hr,hz,over,xap (show i<1000000000000000000 by omega)]
 ·simp [Qav_r0]) k
theorem xtK (l:List ByteArray) (h:(l.length+xbn ByteArray.size l)≤1048576) (k):call Qgq [.one (strs l),.one (strs l)] k=k [.bool true]:=xaa (fun k=>by
 have hm:=h
 simp [Qgq]
 refine xez l rS 1 (.bool false) rfl (fun i x hx hi K=>?_) fun K=>?_
 ·simp [-getElem?_pos,Qgq_r0,hx,hi,xap (show i<1000000000000000000 by omega)]
 ·simp [Qgq_r0]) k
structure xbV where
 Lst:List Int
 Need:Int
abbrev xcM (a:xbV):List PV:=[ints a.Lst,I a.Need]
def xbf (a:xbV):Nat:=a.Lst.length
def xqN (a:xbV):Prop:=a.Lst.length≤maxLen
theorem xsW (a:xbV) (left:Int) (hw:xqN a) (h2:0≤left) (h3:left≤1048576) (k):call Qac [.agg (xcM a),.one (I left)] k=k [I (szr (xbf a) left)]:=xaa (fun k=>by
 have g0:=hw
 unfold xbf
 simp only [Qac,un,cur0,xt5 a.Lst (left) g0 h2 h3,xan,xah,xaf,xav,xam,xai,xao,true_and,and_true]
 by_cases c0:((a.Lst.length:Nat):Int)≤left
 rotate_left
 ·first | (simp [xaw c0,xaw c0];done) | (simp only [xaw c0,xaw c0];simp)
 simp only [xbe c0,show ¬(left-((a.Lst.length:Nat):Int)<0) by omega,decide_false,Bool.false_eq_true,if_false,xan,xah,xaf,xav,xam,xai,xao,true_and,and_true]) k
theorem xsT (a:xbV) (h:xbf a≤1048576) (k):call Qap [.agg (xcM a)] k=k (xcM a):=xaa (fun k=>by
 unfold xbf at h
 simp [Qap,xt3 a.Lst (by omega)]) k
theorem xsu (a:xbV) (h:xbf a≤1048576) (k):call Qgk [.agg (xcM a),.agg (xcM a)] k=k [.bool true]:=xaa (fun k=>by
 unfold xbf at h
 simp [Qgk,xtM a.Lst (by omega)]) k
structure xfD where
 Key:Int
 Tag:Int
abbrev xck (a:xfD):List PV:=[I a.Key,I a.Tag]
theorem xts (r:List PV) (hr:Sh.hasAll [.int .i64,.int .i64] r):∃a:xfD,r=xck a∧True:=by
 obtain ⟨p1,r1,rfl,h1,hr1⟩:=all_cons hr
 obtain ⟨n1,rfl⟩:=xbj h1
 obtain ⟨p2,rfl,h2⟩:=xfC hr1
 obtain ⟨n2,rfl⟩:=xbj h2
 exact ⟨⟨n1,n2⟩,rfl,trivial⟩
theorem xwe (a:xfD) (k):call Qar [.agg (xck a)] k=k (xck a):=xaa (fun k=>by
 simp [Qar]) k
theorem xtL (a:xfD) (k):call Qgm [.agg (xck a),.agg (xck a)] k=k [.bool true]:=xaa (fun k=>by
 simp [Qgm]) k
structure xaS where
 Label:ByteArray
 Kind:Int
 Value:Int
 Path:List ByteArray
abbrev xbg (a:xaS):List PV:=[.str a.Label,I a.Kind,I a.Value,strs a.Path]
def xax (a:xaS):Nat:=a.Label.size+((a.Path.length+xbn ByteArray.size a.Path))
def xng (a:xaS):Prop:=a.Label.size≤maxLen∧(a.Path.length≤maxLen∧∀y∈a.Path,y.size≤maxLen)
theorem xsV (a:xaS) (left:Int) (hw:xng a) (h2:0≤left) (h3:left≤1048576) (k):call Qai [.agg (xbg a),.one (I left)] k=k [I (szr (xax a) left)]:=xaa (fun k=>by
 obtain ⟨g0,g1⟩:=hw
 unfold xax
 simp only [Qai,un,cur0,xeB,xbP,xep (left:=left) g0 h2 h3,xan,xah,xaf,xav,xam,xai,xao,true_and,and_true]
 by_cases c0:((a.Label.size:Nat):Int)≤left
 rotate_left
 ·first | (simp [xa6 c0,show left-((a.Label.size:Nat):Int)<0 by omega];done) | (simp only [xa6 c0,show left-((a.Label.size:Nat):Int)<0 by omega];simp)
 simp only [xbe c0,xcs c0,show ¬(left-((a.Label.size:Nat):Int)<0) by omega,decide_false,Bool.false_eq_true,if_false,xt4 a.Path (left-((a.Label.size:Nat):Int)) g1 (by omega) (by omega),xan,xah,xaf,xav,xam,xai,xao,true_and,and_true]
 by_cases c1:(((a.Path.length+xbn ByteArray.size a.Path):Nat):Int)≤left-((a.Label.size:Nat):Int)
 rotate_left
 ·first | (simp [xaw c1,xaw c1];done) | (simp only [xaw c1,xaw c1];simp)
 simp only [xbe c1,show ¬(left-((a.Label.size:Nat):Int)-(((a.Path.length+xbn ByteArray.size a.Path):Nat):Int)<0) by omega,decide_false,Bool.false_eq_true,if_false,xan,xah,xaf,xav,xam,xai,xao,true_and,and_true]) k
theorem xsS (a:xaS) (h:xax a≤1048576) (k):call Qaw [.agg (xbg a)] k=k (xbg a):=xaa (fun k=>by
 unfold xax at h
 simp [Qaw,xt2 a.Path (by omega)]) k
theorem xst (a:xaS) (h:xax a≤1048576) (k):call Qgr [.agg (xbg a),.agg (xbg a)] k=k [.bool true]:=xaa (fun k=>by
 unfold xax at h
 simp [Qgr,xtK a.Path (by omega)]) k
structure xce where
 At:Int
 Path:List Int
abbrev xcC (a:xce):List PV:=[I a.At,ints a.Path]
def xba (a:xce):Nat:=a.Path.length
def xnf (a:xce):Prop:=a.Path.length≤maxLen
theorem xsU (a:xce) (left:Int) (hw:xnf a) (h2:0≤left) (h3:left≤1048576) (k):call Qaj [.agg (xcC a),.one (I left)] k=k [I (szr (xba a) left)]:=xaa (fun k=>by
 have g0:=hw
 unfold xba
 simp only [Qaj,un,cur0,xt5 a.Path (left) g0 h2 h3,xan,xah,xaf,xav,xam,xai,xao,true_and,and_true]
 by_cases c0:((a.Path.length:Nat):Int)≤left
 rotate_left
 ·first | (simp [xaw c0,xaw c0];done) | (simp only [xaw c0,xaw c0];simp)
 simp only [xbe c0,show ¬(left-((a.Path.length:Nat):Int)<0) by omega,decide_false,Bool.false_eq_true,if_false,xan,xah,xaf,xav,xam,xai,xao,true_and,and_true]) k
theorem xsR (a:xce) (h:xba a≤1048576) (k):call Qax [.agg (xcC a)] k=k (xcC a):=xaa (fun k=>by
 unfold xba at h
 simp [Qax,xt3 a.Path (by omega)]) k
theorem xss (a:xce) (h:xba a≤1048576) (k):call Qgw [.agg (xcC a),.agg (xcC a)] k=k [.bool true]:=xaa (fun k=>by
 unfold xba at h
 simp [Qgw,xtM a.Path (by omega)]) k
structure xkh where
 At:Int
 Before:xaS
 After:xaS
 Left:xce
 Right:xce
abbrev xlb (a:xkh):List PV:=[I a.At,.str a.Before.Label,I a.Before.Kind,I a.Before.Value,strs a.Before.Path,.str a.After.Label,I a.After.Kind,I a.After.Value,strs a.After.Path,I a.Left.At,ints a.Left.Path,I a.Right.At,ints a.Right.Path]
def xgI (a:xkh):Nat:=xax a.Before+(xax a.After+(xba a.Left+(xba a.Right)))
def xwv (a:xkh):Prop:=xng a.Before∧xng a.After∧xnf a.Left∧xnf a.Right
theorem xwj (a:xkh) (left:Int) (hw:xwv a) (h2:0≤left) (h3:left≤1048576) (k):call Qak [.agg (xlb a),.one (I left)] k=k [I (szr (xgI a) left)]:=xaa (fun k=>by
 obtain ⟨g0,g1,g2,g3⟩:=hw
 unfold xgI
 simp only [Qak,un,cur0,xsV a.Before (left) g0 h2 h3,xan,xah,xaf,xav,xam,xai,xao,true_and,and_true]
 by_cases c0:((xax a.Before:Nat):Int)≤left
 rotate_left
 ·first | (simp [xa6 c0,xaw c0];done) | (simp only [xa6 c0,xaw c0];simp)
 simp only [xbe c0,xcs c0,show ¬(left-((xax a.Before:Nat):Int)<0) by omega,decide_false,Bool.false_eq_true,if_false,xsV a.After (left-((xax a.Before:Nat):Int)) g1 (by omega) (by omega),xan,xah,xaf,xav,xam,xai,xao,true_and,and_true]
 by_cases c1:((xax a.After:Nat):Int)≤left-((xax a.Before:Nat):Int)
 rotate_left
 ·first | (simp [xa6 c1,xaw c1];done) | (simp only [xa6 c1,xaw c1];simp)
 simp only [xbe c1,xcs c1,show ¬(left-((xax a.Before:Nat):Int)-((xax a.After:Nat):Int)<0) by omega,decide_false,Bool.false_eq_true,if_false,xsU a.Left (left-((xax a.Before:Nat):Int)-((xax a.After:Nat):Int)) g2 (by omega) (by omega),xan,xah,xaf,xav,xam,xai,xao,true_and,and_true]
 by_cases c2:((xba a.Left:Nat):Int)≤left-((xax a.Before:Nat):Int)-((xax a.After:Nat):Int)
 rotate_left
 ·first | (simp [xa6 c2,xaw c2];done) | (simp only [xa6 c2,xaw c2];simp)
 simp only [xbe c2,xcs c2,show ¬(left-((xax a.Before:Nat):Int)-((xax a.After:Nat):Int)-((xba a.Left:Nat):Int)<0) by omega,decide_false,Bool.false_eq_true,if_false,xsU a.Right (left-((xax a.Before:Nat):Int)-((xax a.After:Nat):Int)-((xba a.Left:Nat):Int)) g3 (by omega) (by omega),xan,xah,xaf,xav,xam,xai,xao,true_and,and_true]
 by_cases c3:((xba a.Right:Nat):Int)≤left-((xax a.Before:Nat):Int)-((xax a.After:Nat):Int)-((xba a.Left:Nat):Int)
 rotate_left
 ·first | (simp [xaw c3,xaw c3];done) | (simp only [xaw c3,xaw c3];simp)
 simp only [xbe c3,show ¬(left-((xax a.Before:Nat):Int)-((xax a.After:Nat):Int)-((xba a.Left:Nat):Int)-((xba a.Right:Nat):Int)<0) by omega,decide_false,Bool.false_eq_true,if_false,xan,xah,xaf,xav,xam,xai,xao,true_and,and_true]) k
theorem xwa (a:xkh) (h:xgI a≤1048576) (k):call Qay [.agg (xlb a)] k=k (xlb a):=xaa (fun k=>by
 unfold xgI at h
 simp [Qay,xsS a.Before (by omega),xsS a.After (by omega),xsR a.Left (by omega),xsR a.Right (by omega)]) k
theorem xvf (a:xkh) (h:xgI a≤1048576) (k):call Qgx [.agg (xlb a),.agg (xlb a)] k=k [.bool true]:=xaa (fun k=>by
 unfold xgI at h
 simp [Qgx,xst a.Before (by omega),xst a.After (by omega),xss a.Left (by omega),xss a.Right (by omega)]) k
structure xa7 where
 Zone:Int
 Epoch:Int
 Kind:Int
 Time:Int
 Until:Int
 Count:Int
 Root:Int
 Prev:Int
 Keys:xbV
 Heirs:xbV
 Wait:Int
 Judge:xbV
 Frozen:Bool
abbrev xbo (a:xa7):List PV:=[I a.Zone,I a.Epoch,I a.Kind,I a.Time,I a.Until,I a.Count,I a.Root,I a.Prev,ints a.Keys.Lst,I a.Keys.Need,ints a.Heirs.Lst,I a.Heirs.Need,I a.Wait,ints a.Judge.Lst,I a.Judge.Need,.bool a.Frozen]
def xbu (a:xa7):Nat:=xbf a.Keys+(xbf a.Heirs+(xbf a.Judge))
def xtA (a:xa7):Prop:=xqN a.Keys∧xqN a.Heirs∧xqN a.Judge
theorem xwn (a:xa7) (left:Int) (hw:xtA a) (h2:0≤left) (h3:left≤1048576) (k):call Qad [.agg (xbo a),.one (I left)] k=k [I (szr (xbu a) left)]:=xaa (fun k=>by
 obtain ⟨g0,g1,g2⟩:=hw
 unfold xbu
 simp only [Qad,un,cur0,xsW a.Keys (left) g0 h2 h3,xan,xah,xaf,xav,xam,xai,xao,true_and,and_true]
 by_cases c0:((xbf a.Keys:Nat):Int)≤left
 rotate_left
 ·first | (simp [xa6 c0,xaw c0];done) | (simp only [xa6 c0,xaw c0];simp)
 simp only [xbe c0,xcs c0,show ¬(left-((xbf a.Keys:Nat):Int)<0) by omega,decide_false,Bool.false_eq_true,if_false,xsW a.Heirs (left-((xbf a.Keys:Nat):Int)) g1 (by omega) (by omega),xan,xah,xaf,xav,xam,xai,xao,true_and,and_true]
 by_cases c1:((xbf a.Heirs:Nat):Int)≤left-((xbf a.Keys:Nat):Int)
 rotate_left
 ·first | (simp [xa6 c1,xaw c1];done) | (simp only [xa6 c1,xaw c1];simp)
 simp only [xbe c1,xcs c1,show ¬(left-((xbf a.Keys:Nat):Int)-((xbf a.Heirs:Nat):Int)<0) by omega,decide_false,Bool.false_eq_true,if_false,xsW a.Judge (left-((xbf a.Keys:Nat):Int)-((xbf a.Heirs:Nat):Int)) g2 (by omega) (by omega),xan,xah,xaf,xav,xam,xai,xao,true_and,and_true]
 by_cases c2:((xbf a.Judge:Nat):Int)≤left-((xbf a.Keys:Nat):Int)-((xbf a.Heirs:Nat):Int)
 rotate_left
 ·first | (simp [xaw c2,xaw c2];done) | (simp only [xaw c2,xaw c2];simp)
 simp only [xbe c2,show ¬(left-((xbf a.Keys:Nat):Int)-((xbf a.Heirs:Nat):Int)-((xbf a.Judge:Nat):Int)<0) by omega,decide_false,Bool.false_eq_true,if_false,xan,xah,xaf,xav,xam,xai,xao,true_and,and_true]) k
theorem xwf (a:xa7) (h:xbu a≤1048576) (k):call Qaq [.agg (xbo a)] k=k (xbo a):=xaa (fun k=>by
 unfold xbu at h
 simp [Qaq,xsT a.Keys (by omega),xsT a.Heirs (by omega),xsT a.Judge (by omega)]) k
theorem xvj (a:xa7) (h:xbu a≤1048576) (k):call Qgl [.agg (xbo a),.agg (xbo a)] k=k [.bool true]:=xaa (fun k=>by
 unfold xbu at h
 simp [Qgl,xsu a.Keys (by omega),xsu a.Heirs (by omega),xsu a.Judge (by omega)]) k
theorem xr4 {p:PV} (h:Sh.has (.list [.int .i64,.int .i64]) p):∃l:List xfD,p=.list 2 (l.map xck)∧l.length≤maxLen:=by
 obtain ⟨l,h1,h2,h3⟩:=xh1 xts 2 rfl h
 exact ⟨l,h1,h2⟩
theorem xwm (l:List xfD) (left:Int) (hw:l.length≤maxLen) (h2:0≤left) (h3:left≤1048576) (k):call Qae [.one (.list 2 (l.map xck)),.one (I left)] k=k [I (szr l.length left)]:=xaa (fun k=>by
 simp only [Qae,xaG,List.length_map,xbP,xep hw h2 h3,xan,xah,xav,xam,xai,xao,true_and,and_true]
 by_cases c:(l.length:Int)≤left
 ·simp [xbe c,show ¬(left-(l.length:Int)<0) by omega]
 ·simp [xaw c,show left-(l.length:Int)<0 by omega]) k
theorem xwd (l:List xfD) (h:l.length≤1048576) (k):call Qas [.one (.list 2 (l.map xck))] k=k [.list 2 (l.map xck)]:=xaa (fun k=>by
 have hm:=h
 simp [Qas,show l.length<1073741824 by omega]
 refine xkF l xck xck [I 0,I 0] 2 2 (.list 2 []) rfl (fun i x hx hi K rows hr hz=>?_) fun K=>?_
 ·simp [-getElem?_pos,Qas_r0,hx,hi,hr,hz,over,xwe x,xap (show i<1000000000000000000 by omega)]
 ·simp [Qas_r0]) k
theorem xvi (l:List xfD) (h:l.length≤1048576) (k):call Qgn [.one (.list 2 (l.map xck)),.one (.list 2 (l.map xck))] k=k [.bool true]:=xaa (fun k=>by
 have hm:=h
 simp [Qgn]
 refine xez l xck 2 (.bool false) rfl (fun i x hx hi K=>?_) fun K=>?_
 ·simp [-getElem?_pos,Qgn_r0,hx,hi,xtL x,xap (show i<1000000000000000000 by omega)]
 ·simp [Qgn_r0]) k
structure xag where
 Head:xa7
 Sigs:List xfD
abbrev xal (a:xag):List PV:=[I a.Head.Zone,I a.Head.Epoch,I a.Head.Kind,I a.Head.Time,I a.Head.Until,I a.Head.Count,I a.Head.Root,I a.Head.Prev,ints a.Head.Keys.Lst,I a.Head.Keys.Need,ints a.Head.Heirs.Lst,I a.Head.Heirs.Need,I a.Head.Wait,ints a.Head.Judge.Lst,I a.Head.Judge.Need,.bool a.Head.Frozen,.list 2 (a.Sigs.map xck)]
def xau (a:xag):Nat:=xbu a.Head+(a.Sigs.length)
def xiq (a:xag):Prop:=xtA a.Head∧a.Sigs.length≤maxLen
theorem xo9 (r:List PV) (hr:Sh.hasAll [.int .i64,.int .i64,.int .i64,.int .i64,.int .i64,.int .i64,.int .i64,.int .i64,.list [.int .i64],.int .i64,.list [.int .i64],.int .i64,.int .i64,.list [.int .i64],.int .i64,.bool,.list [.int .i64,.int .i64]] r):∃a:xag,r=xal a∧xiq a:=by
 obtain ⟨p1,r1,rfl,h1,hr1⟩:=all_cons hr
 obtain ⟨n1,rfl⟩:=xbj h1
 obtain ⟨p2,r2,rfl,h2,hr2⟩:=all_cons hr1
 obtain ⟨n2,rfl⟩:=xbj h2
 obtain ⟨p3,r3,rfl,h3,hr3⟩:=all_cons hr2
 obtain ⟨n3,rfl⟩:=xbj h3
 obtain ⟨p4,r4,rfl,h4,hr4⟩:=all_cons hr3
 obtain ⟨n4,rfl⟩:=xbj h4
 obtain ⟨p5,r5,rfl,h5,hr5⟩:=all_cons hr4
 obtain ⟨n5,rfl⟩:=xbj h5
 obtain ⟨p6,r6,rfl,h6,hr6⟩:=all_cons hr5
 obtain ⟨n6,rfl⟩:=xbj h6
 obtain ⟨p7,r7,rfl,h7,hr7⟩:=all_cons hr6
 obtain ⟨n7,rfl⟩:=xbj h7
 obtain ⟨p8,r8,rfl,h8,hr8⟩:=all_cons hr7
 obtain ⟨n8,rfl⟩:=xbj h8
 obtain ⟨p9,r9,rfl,h9,hr9⟩:=all_cons hr8
 obtain ⟨n9,rfl,g9⟩:=xeS h9
 obtain ⟨p10,r10,rfl,h10,hr10⟩:=all_cons hr9
 obtain ⟨n10,rfl⟩:=xbj h10
 obtain ⟨p11,r11,rfl,h11,hr11⟩:=all_cons hr10
 obtain ⟨n11,rfl,g11⟩:=xeS h11
 obtain ⟨p12,r12,rfl,h12,hr12⟩:=all_cons hr11
 obtain ⟨n12,rfl⟩:=xbj h12
 obtain ⟨p13,r13,rfl,h13,hr13⟩:=all_cons hr12
 obtain ⟨n13,rfl⟩:=xbj h13
 obtain ⟨p14,r14,rfl,h14,hr14⟩:=all_cons hr13
 obtain ⟨n14,rfl,g14⟩:=xeS h14
 obtain ⟨p15,r15,rfl,h15,hr15⟩:=all_cons hr14
 obtain ⟨n15,rfl⟩:=xbj h15
 obtain ⟨p16,r16,rfl,h16,hr16⟩:=all_cons hr15
 obtain ⟨n16,rfl⟩:=xmT h16
 obtain ⟨p17,rfl,h17⟩:=xfC hr16
 obtain ⟨n17,rfl,g17⟩:=xr4 h17
 exact ⟨⟨⟨n1,n2,n3,n4,n5,n6,n7,n8,⟨n9,n10⟩,⟨n11,n12⟩,n13,⟨n14,n15⟩,n16⟩,n17⟩,rfl,⟨⟨g9,g11,g14⟩,g17⟩⟩
theorem xwl (a:xag) (left:Int) (hw:xiq a) (h2:0≤left) (h3:left≤1048576) (k):call Qaf [.agg (xal a),.one (I left)] k=k [I (szr (xau a) left)]:=xaa (fun k=>by
 obtain ⟨g0,g1⟩:=hw
 unfold xau
 simp only [Qaf,un,cur0,xwn a.Head (left) g0 h2 h3,xan,xah,xaf,xav,xam,xai,xao,true_and,and_true]
 by_cases c0:((xbu a.Head:Nat):Int)≤left
 rotate_left
 ·first | (simp [xa6 c0,xaw c0];done) | (simp only [xa6 c0,xaw c0];simp)
 simp only [xbe c0,xcs c0,show ¬(left-((xbu a.Head:Nat):Int)<0) by omega,decide_false,Bool.false_eq_true,if_false,xwm a.Sigs (left-((xbu a.Head:Nat):Int)) g1 (by omega) (by omega),xan,xah,xaf,xav,xam,xai,xao,true_and,and_true]
 by_cases c1:((a.Sigs.length:Nat):Int)≤left-((xbu a.Head:Nat):Int)
 rotate_left
 ·first | (simp [xaw c1,xaw c1];done) | (simp only [xaw c1,xaw c1];simp)
 simp only [xbe c1,show ¬(left-((xbu a.Head:Nat):Int)-((a.Sigs.length:Nat):Int)<0) by omega,decide_false,Bool.false_eq_true,if_false,xan,xah,xaf,xav,xam,xai,xao,true_and,and_true]) k
theorem xwc (a:xag) (h:xau a≤1048576) (k):call Qat [.agg (xal a)] k=k (xal a):=xaa (fun k=>by
 unfold xau at h
 simp [Qat,xwf a.Head (by omega),xwd a.Sigs (by omega)]) k
theorem xvh (a:xag) (h:xau a≤1048576) (k):call Qgo [.agg (xal a),.agg (xal a)] k=k [.bool true]:=xaa (fun k=>by
 unfold xau at h
 simp [Qgo,xvj a.Head (by omega),xvi a.Sigs (by omega)]) k
structure xcT where
 Before:xag
 A:xag
 B:xag
abbrev xbw (a:xcT):List PV:=[I a.Before.Head.Zone,I a.Before.Head.Epoch,I a.Before.Head.Kind,I a.Before.Head.Time,I a.Before.Head.Until,I a.Before.Head.Count,I a.Before.Head.Root,I a.Before.Head.Prev,ints a.Before.Head.Keys.Lst,I a.Before.Head.Keys.Need,ints a.Before.Head.Heirs.Lst,I a.Before.Head.Heirs.Need,I a.Before.Head.Wait,ints a.Before.Head.Judge.Lst,I a.Before.Head.Judge.Need,.bool a.Before.Head.Frozen,.list 2 (a.Before.Sigs.map xck),I a.A.Head.Zone,I a.A.Head.Epoch,I a.A.Head.Kind,I a.A.Head.Time,I a.A.Head.Until,I a.A.Head.Count,I a.A.Head.Root,I a.A.Head.Prev,ints a.A.Head.Keys.Lst,I a.A.Head.Keys.Need,ints a.A.Head.Heirs.Lst,I a.A.Head.Heirs.Need,I a.A.Head.Wait,ints a.A.Head.Judge.Lst,I a.A.Head.Judge.Need,.bool a.A.Head.Frozen,.list 2 (a.A.Sigs.map xck),I a.B.Head.Zone,I a.B.Head.Epoch,I a.B.Head.Kind,I a.B.Head.Time,I a.B.Head.Until,I a.B.Head.Count,I a.B.Head.Root,I a.B.Head.Prev,ints a.B.Head.Keys.Lst,I a.B.Head.Keys.Need,ints a.B.Head.Heirs.Lst,I a.B.Head.Heirs.Need,I a.B.Head.Wait,ints a.B.Head.Judge.Lst,I a.B.Head.Judge.Need,.bool a.B.Head.Frozen,.list 2 (a.B.Sigs.map xck)]
def xfr (a:xcT):Nat:=xau a.Before+(xau a.A+(xau a.B))
def xaq (l:List xag):Nat:=l.length+xbn xau l
theorem xnI {p:PV} (h:Sh.has (.list [.int .i64,.int .i64,.int .i64,.int .i64,.int .i64,.int .i64,.int .i64,.int .i64,.list [.int .i64],.int .i64,.list [.int .i64],.int .i64,.int .i64,.list [.int .i64],.int .i64,.bool,.list [.int .i64,.int .i64]]) p):∃l:List xag,p=.list 17 (l.map xal)∧(l.length≤maxLen∧∀y∈l,xiq y):=by
 obtain ⟨l,h1,h2,h3⟩:=xh1 xo9 17 rfl h
 exact ⟨l,h1,h2,h3⟩
theorem xwk (l:List xag) (left:Int) (hw:(l.length≤maxLen∧∀y∈l,xiq y)) (h2:0≤left) (h3:left≤1048576) (k):call Qag [.one (.list 17 (l.map xal)),.one (I left)] k=k [I (szr (xaq l) left)]:=xaa (fun k=>by
 simp only [Qag,xaG,List.length_map,xbP,xep hw.1 h2 h3,xan,xah,xav,xam,xai,xao,true_and,and_true]
 unfold xaq
 by_cases c:(l.length:Int)≤left
 rotate_left
 ·simp [xa6 c,show left-(l.length:Int)<0 by omega]
 simp only [xcs c,show ¬(left-(l.length:Int)<0) by omega,decide_false,Bool.false_eq_true,if_false]
 refine (xrP (neg:=k [I (-1)]) (fin:=fun t=>k [I t]) l xal 17 xau (left-(l.length:Int)) (I 0) (by omega) (by omega) rfl (fun i x hx hi t ht1 ht2 K=>?_) fun t K=>?_).trans ?_
 ·have e:=xwl x t (hw.2 x (List.mem_of_getElem? hx)) ht1 ht2
  simp [-getElem?_pos,Qag_r0,hx,hi,e,xap (show i<1000000000000000000 by omega)]
  by_cases hs:((xau x:Nat):Int)≤t
  ·simp [xbe hs,hs,show ¬(t-((xau x:Nat):Int)<0) by omega]
  ·simp [xaw hs,hs]
 ·simp [Qag_r0]
 ·by_cases hs:((xbn xau l:Nat):Int)≤left-(l.length:Int)
  ·simp [xbe hs,hs]
  ·simp [xaw hs,hs]) k
theorem xwb (l:List xag) (h:xaq l≤1048576) (k):call Qau [.one (.list 17 (l.map xal))] k=k [.list 17 (l.map xal)]:=xaa (fun k=>by
 have hm:=h
 unfold xaq at hm
 simp [Qau,show l.length<1073741824 by omega]
 refine xkF l xal xal [I 0,I 0,I 0,I 0,I 0,I 0,I 0,I 0,.list 1 [],I 0,.list 1 [],I 0,I 0,.list 1 [],I 0,.bool false,.list 2 []] 17 17 (.list 17 []) rfl (fun i x hx hi K rows hr hz=>?_) fun K=>?_
 ·have hs:xau x≤xbn xau l:=xbO (s:=xau) (List.mem_of_getElem? hx)
  simp [-getElem?_pos,Qau_r0,hx,hi,hr,hz,over,xwc x (by omega),xap (show i<1000000000000000000 by omega)]
 ·simp [Qau_r0]) k
theorem xvg (l:List xag) (h:xaq l≤1048576) (k):call Qgp [.one (.list 17 (l.map xal)),.one (.list 17 (l.map xal))] k=k [.bool true]:=xaa (fun k=>by
 have hm:=h
 unfold xaq at hm
 simp [Qgp]
 refine xez l xal 17 (.bool false) rfl (fun i x hx hi K=>?_) fun K=>?_
 ·have hs:xau x≤xbn xau l:=xbO (s:=xau) (List.mem_of_getElem? hx)
  simp [-getElem?_pos,Qgp_r0,hx,hi,xvh x (by omega),xap (show i<1000000000000000000 by omega)]
 ·simp [Qgp_r0]) k
def xgk (l:List xaS):Nat:=l.length+xbn xax l
structure xq2 where
 Chain:List xag
 Entries:List xaS
structure xat where
 Chain:List xag
 Found:Bool
 Entry:xaS
 Proof:xce
 Gap:xkh
abbrev xaU (a:xat):List PV:=[.list 17 (a.Chain.map xal),.bool a.Found,.str a.Entry.Label,I a.Entry.Kind,I a.Entry.Value,strs a.Entry.Path,I a.Proof.At,ints a.Proof.Path,I a.Gap.At,.str a.Gap.Before.Label,I a.Gap.Before.Kind,I a.Gap.Before.Value,strs a.Gap.Before.Path,.str a.Gap.After.Label,I a.Gap.After.Kind,I a.Gap.After.Value,strs a.Gap.After.Path,I a.Gap.Left.At,ints a.Gap.Left.Path,I a.Gap.Right.At,ints a.Gap.Right.Path]
def xaK (a:xat):Nat:=xaq a.Chain+(xax a.Entry+(xba a.Proof+(xgI a.Gap)))
def xpx (a:xat):Prop:=(a.Chain.length≤maxLen∧∀y∈a.Chain,xiq y)∧xng a.Entry∧xnf a.Proof∧xwv a.Gap
theorem xwi (a:xat) (left:Int) (hw:xpx a) (h2:0≤left) (h3:left≤1048576) (k):call Qal [.agg (xaU a),.one (I left)] k=k [I (szr (xaK a) left)]:=xaa (fun k=>by
 obtain ⟨g0,g1,g2,g3⟩:=hw
 unfold xaK
 simp only [Qal,un,cur0,xwk a.Chain (left) g0 h2 h3,xan,xah,xaf,xav,xam,xai,xao,true_and,and_true]
 by_cases c0:((xaq a.Chain:Nat):Int)≤left
 rotate_left
 ·first | (simp [xa6 c0,xaw c0];done) | (simp only [xa6 c0,xaw c0];simp)
 simp only [xbe c0,xcs c0,show ¬(left-((xaq a.Chain:Nat):Int)<0) by omega,decide_false,Bool.false_eq_true,if_false,xsV a.Entry (left-((xaq a.Chain:Nat):Int)) g1 (by omega) (by omega),xan,xah,xaf,xav,xam,xai,xao,true_and,and_true]
 by_cases c1:((xax a.Entry:Nat):Int)≤left-((xaq a.Chain:Nat):Int)
 rotate_left
 ·first | (simp [xa6 c1,xaw c1];done) | (simp only [xa6 c1,xaw c1];simp)
 simp only [xbe c1,xcs c1,show ¬(left-((xaq a.Chain:Nat):Int)-((xax a.Entry:Nat):Int)<0) by omega,decide_false,Bool.false_eq_true,if_false,xsU a.Proof (left-((xaq a.Chain:Nat):Int)-((xax a.Entry:Nat):Int)) g2 (by omega) (by omega),xan,xah,xaf,xav,xam,xai,xao,true_and,and_true]
 by_cases c2:((xba a.Proof:Nat):Int)≤left-((xaq a.Chain:Nat):Int)-((xax a.Entry:Nat):Int)
 rotate_left
 ·first | (simp [xa6 c2,xaw c2];done) | (simp only [xa6 c2,xaw c2];simp)
 simp only [xbe c2,xcs c2,show ¬(left-((xaq a.Chain:Nat):Int)-((xax a.Entry:Nat):Int)-((xba a.Proof:Nat):Int)<0) by omega,decide_false,Bool.false_eq_true,if_false,xwj a.Gap (left-((xaq a.Chain:Nat):Int)-((xax a.Entry:Nat):Int)-((xba a.Proof:Nat):Int)) g3 (by omega) (by omega),xan,xah,xaf,xav,xam,xai,xao,true_and,and_true]
 by_cases c3:((xgI a.Gap:Nat):Int)≤left-((xaq a.Chain:Nat):Int)-((xax a.Entry:Nat):Int)-((xba a.Proof:Nat):Int)
 rotate_left
 ·first | (simp [xaw c3,xaw c3];done) | (simp only [xaw c3,xaw c3];simp)
 simp only [xbe c3,show ¬(left-((xaq a.Chain:Nat):Int)-((xax a.Entry:Nat):Int)-((xba a.Proof:Nat):Int)-((xgI a.Gap:Nat):Int)<0) by omega,decide_false,Bool.false_eq_true,if_false,xan,xah,xaf,xav,xam,xai,xao,true_and,and_true]) k
theorem xv9 (a:xat) (h:xaK a≤1048576) (k):call Qaz [.agg (xaU a)] k=k (xaU a):=xaa (fun k=>by
 unfold xaK at h
 simp [Qaz,xwb a.Chain (by omega),xsS a.Entry (by omega),xsR a.Proof (by omega),xwa a.Gap (by omega)]) k
theorem xve (a:xat) (h:xaK a≤1048576) (k):call Qgy [.agg (xaU a),.agg (xaU a)] k=k [.bool true]:=xaa (fun k=>by
 unfold xaK at h
 simp [Qgy,xvg a.Chain (by omega),xst a.Entry (by omega),xss a.Proof (by omega),xvf a.Gap (by omega)]) k
def xc1 (l:List (List xag)):Nat:=l.length+xbn xaq l
def xgJ (l:List xcT):Nat:=l.length+xbn xfr l
structure xaJ where
 Chains:List (List xag)
 Forks:List xcT
abbrev xcb (a:xaJ):List PV:=[.list 1 (a.Chains.map (fun l:List xag=>[.list 17 (l.map xal)])),.list 51 (a.Forks.map xbw)]
def xfP (a:xaJ):Nat:=xc1 a.Chains+(xgJ a.Forks)
structure xpG where
 Zones:List xq2
 Lie:Int
structure xpH where
 Known:xaJ
 Found:Bool
 Entry:xaS
 Done:Bool
 Codes:List Int
abbrev xel (a:xpH):List PV:=[.list 1 (a.Known.Chains.map (fun l:List xag=>[.list 17 (l.map xal)])),.list 51 (a.Known.Forks.map xbw),.bool a.Found,.str a.Entry.Label,I a.Entry.Kind,I a.Entry.Value,strs a.Entry.Path,.bool a.Done,ints a.Codes]
structure xjx where
 Known:xaJ
 Code:Int
 Entry:xaS
 Zones:List Int
 Moves:Int
abbrev xcL (a:xjx):List PV:=[.list 1 (a.Known.Chains.map (fun l:List xag=>[.list 17 (l.map xal)])),.list 51 (a.Known.Forks.map xbw),I a.Code,.str a.Entry.Label,I a.Entry.Kind,I a.Entry.Value,strs a.Entry.Path,ints a.Zones,I a.Moves]
def xgH (a:xjx):Nat:=xfP a.Known+(xax a.Entry+(a.Zones.length))
structure xbz where
 Zone:Int
 Label:ByteArray
 Answer:xat
abbrev xa4 (a:xbz):List PV:=[I a.Zone,.str a.Label,.list 17 (a.Answer.Chain.map xal),.bool a.Answer.Found,.str a.Answer.Entry.Label,I a.Answer.Entry.Kind,I a.Answer.Entry.Value,strs a.Answer.Entry.Path,I a.Answer.Proof.At,ints a.Answer.Proof.Path,I a.Answer.Gap.At,.str a.Answer.Gap.Before.Label,I a.Answer.Gap.Before.Kind,I a.Answer.Gap.Before.Value,strs a.Answer.Gap.Before.Path,.str a.Answer.Gap.After.Label,I a.Answer.Gap.After.Kind,I a.Answer.Gap.After.Value,strs a.Answer.Gap.After.Path,I a.Answer.Gap.Left.At,ints a.Answer.Gap.Left.Path,I a.Answer.Gap.Right.At,ints a.Answer.Gap.Right.Path]
def xbq (a:xbz):Nat:=a.Label.size+(xaK a.Answer)
def xip (a:xbz):Prop:=a.Label.size≤maxLen∧xpx a.Answer
theorem xo8 (r:List PV) (hr:Sh.hasAll [.int .i64,.str,.list [.int .i64,.int .i64,.int .i64,.int .i64,.int .i64,.int .i64,.int .i64,.int .i64,.list [.int .i64],.int .i64,.list [.int .i64],.int .i64,.int .i64,.list [.int .i64],.int .i64,.bool,.list [.int .i64,.int .i64]],.bool,.str,.int .i64,.int .i64,.list [.str],.int .i64,.list [.int .i64],.int .i64,.str,.int .i64,.int .i64,.list [.str],.str,.int .i64,.int .i64,.list [.str],.int .i64,.list [.int .i64],.int .i64,.list [.int .i64]] r):∃a:xbz,r=xa4 a∧xip a:=by
 obtain ⟨p1,r1,rfl,h1,hr1⟩:=all_cons hr
 obtain ⟨n1,rfl⟩:=xbj h1
 obtain ⟨p2,r2,rfl,h2,hr2⟩:=all_cons hr1
 obtain ⟨n2,rfl,g2⟩:=xh0 h2
 obtain ⟨p3,r3,rfl,h3,hr3⟩:=all_cons hr2
 obtain ⟨n3,rfl,g3⟩:=xnI h3
 obtain ⟨p4,r4,rfl,h4,hr4⟩:=all_cons hr3
 obtain ⟨n4,rfl⟩:=xmT h4
 obtain ⟨p5,r5,rfl,h5,hr5⟩:=all_cons hr4
 obtain ⟨n5,rfl,g5⟩:=xh0 h5
 obtain ⟨p6,r6,rfl,h6,hr6⟩:=all_cons hr5
 obtain ⟨n6,rfl⟩:=xbj h6
 obtain ⟨p7,r7,rfl,h7,hr7⟩:=all_cons hr6
 obtain ⟨n7,rfl⟩:=xbj h7
 obtain ⟨p8,r8,rfl,h8,hr8⟩:=all_cons hr7
 obtain ⟨n8,rfl,g8⟩:=xhd h8
 obtain ⟨p9,r9,rfl,h9,hr9⟩:=all_cons hr8
 obtain ⟨n9,rfl⟩:=xbj h9
 obtain ⟨p10,r10,rfl,h10,hr10⟩:=all_cons hr9
 obtain ⟨n10,rfl,g10⟩:=xeS h10
 obtain ⟨p11,r11,rfl,h11,hr11⟩:=all_cons hr10
 obtain ⟨n11,rfl⟩:=xbj h11
 obtain ⟨p12,r12,rfl,h12,hr12⟩:=all_cons hr11
 obtain ⟨n12,rfl,g12⟩:=xh0 h12
 obtain ⟨p13,r13,rfl,h13,hr13⟩:=all_cons hr12
 obtain ⟨n13,rfl⟩:=xbj h13
 obtain ⟨p14,r14,rfl,h14,hr14⟩:=all_cons hr13
 obtain ⟨n14,rfl⟩:=xbj h14
 obtain ⟨p15,r15,rfl,h15,hr15⟩:=all_cons hr14
 obtain ⟨n15,rfl,g15⟩:=xhd h15
 obtain ⟨p16,r16,rfl,h16,hr16⟩:=all_cons hr15
 obtain ⟨n16,rfl,g16⟩:=xh0 h16
 obtain ⟨p17,r17,rfl,h17,hr17⟩:=all_cons hr16
 obtain ⟨n17,rfl⟩:=xbj h17
 obtain ⟨p18,r18,rfl,h18,hr18⟩:=all_cons hr17
 obtain ⟨n18,rfl⟩:=xbj h18
 obtain ⟨p19,r19,rfl,h19,hr19⟩:=all_cons hr18
 obtain ⟨n19,rfl,g19⟩:=xhd h19
 obtain ⟨p20,r20,rfl,h20,hr20⟩:=all_cons hr19
 obtain ⟨n20,rfl⟩:=xbj h20
 obtain ⟨p21,r21,rfl,h21,hr21⟩:=all_cons hr20
 obtain ⟨n21,rfl,g21⟩:=xeS h21
 obtain ⟨p22,r22,rfl,h22,hr22⟩:=all_cons hr21
 obtain ⟨n22,rfl⟩:=xbj h22
 obtain ⟨p23,rfl,h23⟩:=xfC hr22
 obtain ⟨n23,rfl,g23⟩:=xeS h23
 exact ⟨⟨n1,n2,⟨n3,n4,⟨n5,n6,n7,n8⟩,⟨n9,n10⟩,⟨n11,⟨n12,n13,n14,n15⟩,⟨n16,n17,n18,n19⟩,⟨n20,n21⟩,⟨n22,n23⟩⟩⟩⟩,rfl,⟨g2,⟨g3,⟨g5,g8⟩,g10,⟨⟨g12,g15⟩,⟨g16,g19⟩,g21,g23⟩⟩⟩⟩
theorem xwh (a:xbz) (left:Int) (hw:xip a) (h2:0≤left) (h3:left≤1048576) (k):call Qam [.agg (xa4 a),.one (I left)] k=k [I (szr (xbq a) left)]:=xaa (fun k=>by
 obtain ⟨g0,g1⟩:=hw
 unfold xbq
 simp only [Qam,un,cur0,xeB,xbP,xep (left:=left) g0 h2 h3,xan,xah,xaf,xav,xam,xai,xao,true_and,and_true]
 by_cases c0:((a.Label.size:Nat):Int)≤left
 rotate_left
 ·first | (simp [xa6 c0,show left-((a.Label.size:Nat):Int)<0 by omega];done) | (simp only [xa6 c0,show left-((a.Label.size:Nat):Int)<0 by omega];simp)
 simp only [xbe c0,xcs c0,show ¬(left-((a.Label.size:Nat):Int)<0) by omega,decide_false,Bool.false_eq_true,if_false,xwi a.Answer (left-((a.Label.size:Nat):Int)) g1 (by omega) (by omega),xan,xah,xaf,xav,xam,xai,xao,true_and,and_true]
 by_cases c1:((xaK a.Answer:Nat):Int)≤left-((a.Label.size:Nat):Int)
 rotate_left
 ·first | (simp [xaw c1,xaw c1];done) | (simp only [xaw c1,xaw c1];simp)
 simp only [xbe c1,show ¬(left-((a.Label.size:Nat):Int)-((xaK a.Answer:Nat):Int)<0) by omega,decide_false,Bool.false_eq_true,if_false,xan,xah,xaf,xav,xam,xai,xao,true_and,and_true]) k
theorem xv8 (a:xbz) (h:xbq a≤1048576) (k):call Qba [.agg (xa4 a)] k=k (xa4 a):=xaa (fun k=>by
 unfold xbq at h
 simp [Qba,xv9 a.Answer (by omega)]) k
theorem xvd (a:xbz) (h:xbq a≤1048576) (k):call Qgz [.agg (xa4 a),.agg (xa4 a)] k=k [.bool true]:=xaa (fun k=>by
 unfold xbq at h
 simp [Qgz,xve a.Answer (by omega)]) k
def xcg (l:List xbz):Nat:=l.length+xbn xbq l
theorem xnH {p:PV} (h:Sh.has (.list [.int .i64,.str,.list [.int .i64,.int .i64,.int .i64,.int .i64,.int .i64,.int .i64,.int .i64,.int .i64,.list [.int .i64],.int .i64,.list [.int .i64],.int .i64,.int .i64,.list [.int .i64],.int .i64,.bool,.list [.int .i64,.int .i64]],.bool,.str,.int .i64,.int .i64,.list [.str],.int .i64,.list [.int .i64],.int .i64,.str,.int .i64,.int .i64,.list [.str],.str,.int .i64,.int .i64,.list [.str],.int .i64,.list [.int .i64],.int .i64,.list [.int .i64]]) p):∃l:List xbz,p=.list 23 (l.map xa4)∧(l.length≤maxLen∧∀y∈l,xip y):=by
 obtain ⟨l,h1,h2,h3⟩:=xh1 xo8 23 rfl h
 exact ⟨l,h1,h2,h3⟩
theorem xwg (l:List xbz) (left:Int) (hw:(l.length≤maxLen∧∀y∈l,xip y)) (h2:0≤left) (h3:left≤1048576) (k):call Qan [.one (.list 23 (l.map xa4)),.one (I left)] k=k [I (szr (xcg l) left)]:=xaa (fun k=>by
 simp only [Qan,xaG,List.length_map,xbP,xep hw.1 h2 h3,xan,xah,xav,xam,xai,xao,true_and,and_true]
 unfold xcg
 by_cases c:(l.length:Int)≤left
 rotate_left
 ·simp [xa6 c,show left-(l.length:Int)<0 by omega]
 simp only [xcs c,show ¬(left-(l.length:Int)<0) by omega,decide_false,Bool.false_eq_true,if_false]
 refine (xrP (neg:=k [I (-1)]) (fin:=fun t=>k [I t]) l xa4 23 xbq (left-(l.length:Int)) (I 0) (by omega) (by omega) rfl (fun i x hx hi t ht1 ht2 K=>?_) fun t K=>?_).trans ?_
 ·have e:=xwh x t (hw.2 x (List.mem_of_getElem? hx)) ht1 ht2
  simp [-getElem?_pos,Qan_r0,hx,hi,e,xap (show i<1000000000000000000 by omega)]
  by_cases hs:((xbq x:Nat):Int)≤t
  ·simp [xbe hs,hs,show ¬(t-((xbq x:Nat):Int)<0) by omega]
  ·simp [xaw hs,hs]
 ·simp [Qan_r0]
 ·by_cases hs:((xbn xbq l:Nat):Int)≤left-(l.length:Int)
  ·simp [xbe hs,hs]
  ·simp [xaw hs,hs]) k
theorem xv7 (l:List xbz) (h:xcg l≤1048576) (k):call Qbb [.one (.list 23 (l.map xa4))] k=k [.list 23 (l.map xa4)]:=xaa (fun k=>by
 have hm:=h
 unfold xcg at hm
 simp [Qbb,show l.length<1073741824 by omega]
 refine xkF l xa4 xa4 [I 0,.str ⟨#[]⟩,.list 17 [],.bool false,.str ⟨#[]⟩,I 0,I 0,.list 1 [],I 0,.list 1 [],I 0,.str ⟨#[]⟩,I 0,I 0,.list 1 [],.str ⟨#[]⟩,I 0,I 0,.list 1 [],I 0,.list 1 [],I 0,.list 1 []] 23 23 (.list 23 []) rfl (fun i x hx hi K rows hr hz=>?_) fun K=>?_
 ·have hs:xbq x≤xbn xbq l:=xbO (s:=xbq) (List.mem_of_getElem? hx)
  simp [-getElem?_pos,Qbb_r0,hx,hi,hr,hz,over,xv8 x (by omega),xap (show i<1000000000000000000 by omega)]
 ·simp [Qbb_r0]) k
theorem xvc (l:List xbz) (h:xcg l≤1048576) (k):call Qha [.one (.list 23 (l.map xa4)),.one (.list 23 (l.map xa4))] k=k [.bool true]:=xaa (fun k=>by
 have hm:=h
 unfold xcg at hm
 simp [Qha]
 refine xez l xa4 23 (.bool false) rfl (fun i x hx hi K=>?_) fun K=>?_
 ·have hs:xbq x≤xbn xbq l:=xbO (s:=xbq) (List.mem_of_getElem? hx)
  simp [-getElem?_pos,Qha_r0,hx,hi,xvd x (by omega),xap (show i<1000000000000000000 by omega)]
 ·simp [Qha_r0]) k
structure xbE where
 Lst:List xbz
abbrev xbC (a:xbE):List PV:=[.list 23 (a.Lst.map xa4)]
structure xcU where
 Root:Int
 Path:List ByteArray
 Steps:List xbz
abbrev xc7 (a:xcU):List PV:=[I a.Root,strs a.Path,.list 23 (a.Steps.map xa4)]
def xb9 (a:xcU):Nat:=(a.Path.length+xbn ByteArray.size a.Path)+(xcg a.Steps)
def xpw (a:xcU):Prop:=(a.Path.length≤maxLen∧∀y∈a.Path,y.size≤maxLen)∧(a.Steps.length≤maxLen∧∀y∈a.Steps,xip y)
theorem xpa (r:List PV) (hr:Sh.hasAll [.int .i64,.list [.str],.list [.int .i64,.str,.list [.int .i64,.int .i64,.int .i64,.int .i64,.int .i64,.int .i64,.int .i64,.int .i64,.list [.int .i64],.int .i64,.list [.int .i64],.int .i64,.int .i64,.list [.int .i64],.int .i64,.bool,.list [.int .i64,.int .i64]],.bool,.str,.int .i64,.int .i64,.list [.str],.int .i64,.list [.int .i64],.int .i64,.str,.int .i64,.int .i64,.list [.str],.str,.int .i64,.int .i64,.list [.str],.int .i64,.list [.int .i64],.int .i64,.list [.int .i64]]] r):∃a:xcU,r=xc7 a∧xpw a:=by
 obtain ⟨p1,r1,rfl,h1,hr1⟩:=all_cons hr
 obtain ⟨n1,rfl⟩:=xbj h1
 obtain ⟨p2,r2,rfl,h2,hr2⟩:=all_cons hr1
 obtain ⟨n2,rfl,g2⟩:=xhd h2
 obtain ⟨p3,rfl,h3⟩:=xfC hr2
 obtain ⟨n3,rfl,g3⟩:=xnH h3
 exact ⟨⟨n1,n2,n3⟩,rfl,⟨g2,g3⟩⟩
theorem xuT (a:xcU) (left:Int) (hw:xpw a) (h2:0≤left) (h3:left≤1048576) (k):call Qke [.agg (xc7 a),.one (I left)] k=k [I (szr (xb9 a) left)]:=xaa (fun k=>by
 obtain ⟨g0,g1⟩:=hw
 unfold xb9
 simp only [Qke,un,cur0,xt4 a.Path (left) g0 h2 h3,xan,xah,xaf,xav,xam,xai,xao,true_and,and_true]
 by_cases c0:(((a.Path.length+xbn ByteArray.size a.Path):Nat):Int)≤left
 rotate_left
 ·first | (simp [xa6 c0,xaw c0];done) | (simp only [xa6 c0,xaw c0];simp)
 simp only [xbe c0,xcs c0,show ¬(left-(((a.Path.length+xbn ByteArray.size a.Path):Nat):Int)<0) by omega,decide_false,Bool.false_eq_true,if_false,xwg a.Steps (left-(((a.Path.length+xbn ByteArray.size a.Path):Nat):Int)) g1 (by omega) (by omega),xan,xah,xaf,xav,xam,xai,xao,true_and,and_true]
 by_cases c1:((xcg a.Steps:Nat):Int)≤left-(((a.Path.length+xbn ByteArray.size a.Path):Nat):Int)
 rotate_left
 ·first | (simp [xaw c1,xaw c1];done) | (simp only [xaw c1,xaw c1];simp)
 simp only [xbe c1,show ¬(left-(((a.Path.length+xbn ByteArray.size a.Path):Nat):Int)-((xcg a.Steps:Nat):Int)<0) by omega,decide_false,Bool.false_eq_true,if_false,xan,xah,xaf,xav,xam,xai,xao,true_and,and_true]) k
theorem xuS (a:xcU) (h:xb9 a≤1048576) (k):call Qkf [.agg (xc7 a)] k=k (xc7 a):=xaa (fun k=>by
 unfold xb9 at h
 simp [Qkf,xt2 a.Path (by omega),xv7 a.Steps (by omega)]) k
theorem xuR (a:xcU) (h:xb9 a≤1048576) (k):call Qkz [.agg (xc7 a),.agg (xc7 a)] k=k [.bool true]:=xaa (fun k=>by
 unfold xb9 at h
 simp [Qkz,xtK a.Path (by omega),xvc a.Steps (by omega)]) k
structure xrr where
 Held:List Int
structure xt7 where
 Zone:xq2
 Held:List Int
structure xt6 where
 Now:Int
 Actors:List xrr
 Zones:List xq2
 Said:List xt7
 Servers:List xpG
 Known:xaJ
 Cache:xbE
theorem xaX {ρ:List (Nat×MM)} {off t:Nat} {ss:List (Option Eff×SV)} {r r1 r':List PV} {p:PV} {k k':Int} (h1:r[off]? = some p) (h2:p.flat=true) (h3:r.set off (xr6 mtx k t)=r1) (h4:IntKind.i64.wrap (k+1)=k+1) (h:xcw ρ mtx ss r1 (k+1)=some (r',k')):xcw ρ mtx ((some (.store off t),.kk)::(none,.kinc)::ss) r k=some (r',k'):=by
 subst h3
 simp only [xcw,xp5,xj4,h1,h2,if_true,h4]
 exact h
theorem xcE {ρ:List (Nat×MM)} {off f:Nat} {m:PV→Int→Option (PV×Int)} {ss:List (Option Eff×SV)} {r r1 r':List PV} {p p':PV} {k k1 k':Int} (h1:r[off]? = some p) (h2:lk ρ f=some (.sl m)) (h3:m p k=some (p',k1)) (h4:r.set off p'=r1) (h5:rg64 k1=true) (h:xcw ρ mtx ss r1 k1=some (r',k')):xcw ρ mtx ((some (.call off none f),.res)::ss) r k=some (r',k'):=by
 subst h4
 simp only [xcw,xp5,xj4,h1,h2,h3,h5,if_true]
 exact h
theorem xti {ρ:List (Nat×MM)} {off n f:Nat} {m:List PV→Int→Option (List PV×Int)} {ss:List (Option Eff×SV)} {r r1 r' q q':List PV} {k k1 k':Int} (h1:off+n≤r.length) (h2:lk ρ f=some (.st m)) (hq:(r.drop off).take n=q) (h3:m q k=some (q',k1)) (h4:r.take off++q'++r.drop (off+n)=r1) (h5:rg64 k1=true) (h:xcw ρ mtx ss r1 k1=some (r',k')):xcw ρ mtx ((some (.call off (some n) f),.res)::ss) r k=some (r',k'):=by
 subst h4;subst hq
 simp only [xcw,xp5,xj4,h1,h2,h3,h5,if_true]
 exact h
theorem xcl {k:Int} (h1:0≤k) (h2:k≤1000000000000000):rg64 k=true:=by simp only [rg64,Bool.and_eq_true,decide_eq_true_eq];omega
theorem wr1 {k:Int} (h1:0≤k) (h2:k≤1000000000000000):IntKind.i64.wrap (k+1)=k+1:=xcn (by omega) (by omega)
theorem xdT {sz:Nat} {rows:List (List PV)} {i:Nat} {r:List PV} (h:rows[i]? = some r) (k:List PV→Prop):xaj sz (.list sz rows) (I i) k=k r:=by
 simp [xaj,h]
theorem xbS {α:Type} (e:α→List PV) (c:α→Nat) {ρ:List (Nat×MM)} {ss:List (Option Eff×SV)} {R:(List PV→Prop)→List PV→Prop} (sz:Nat):∀(l:List α)
 (hel:∀x∈l,∀k,0≤k→k+40*(1+(c x:Int))≤1000000000000000→∃r' k',xcw ρ mtx ss (e x) k=some (r',k')∧k≤k'∧k'≤k+40*(1+(c x:Int))∧∀(rows:List (List PV)) (i:Nat) K z,rows[i]? = some r'→i<rows.length→rows.length≤1000000000000000→(R K [.list sz rows,I k,z,I i]↔K [.list sz rows,I k',z,I ((i:Int)+1)]))
 (k:Int),0≤k→k+40*((l.length:Int)+(xbn c l:Int))≤1000000000000000→∃rows' k',xc9 ρ mtx ss (l.map e) k=some (rows',k')∧rows'.length=l.length∧k≤k'∧k'≤k+40*((l.length:Int)+(xbn c l:Int)) ∧
  ∀(pre:List (List PV)) (z:PV) (fin:Prop),(pre++rows').length≤1000000000000000→(∀K,R K [.list sz (pre++rows'),I k',z,I (pre++rows').length]↔fin)→(lp R [.list sz (pre++rows'),I k,z,I pre.length]↔fin)
 | [],hel,k,h0,hb=>⟨[],k,rfl,rfl,Int.le_refl _,by simp [xbn],fun pre z fin hl hf=>xaE fun K=>by have:=hf K;rwa [List.append_nil] at this ⊢⟩
 | x::l,hel,k,h0,hb=>by
  have hs:xbn c (x::l)=c x+xbn c l:=rfl
  rw [hs] at hb ⊢
  simp only [List.length_cons] at hb ⊢
  obtain ⟨r',k1,q1,q2,q3,q4⟩:=hel x (by simp) k h0 (by omega)
  obtain ⟨rows',k',p1,p2,p3,p4,p5⟩:=xbS e c sz l (fun y hy=>hel y (by simp [hy])) k1 (by omega) (by omega)
  refine ⟨r'::rows',k',by simp only [List.map_cons,xc9,q1,p1],by simp [p2],by omega,by omega,fun pre z fin hl hf=>?_⟩
  have hx:(pre++r'::rows')[pre.length]? = some r':=by simp
  have hlt:pre.length<(pre++r'::rows').length:=by simp
  rw [xcm fun K=>q4 (pre++r'::rows') pre.length K z hx hlt hl]
  have e1:pre++r'::rows'=(pre++[r'])++rows':=by simp
  have e2:((pre.length:Int)+1)=(((pre++[r']).length:Nat):Int):=by simp
  rw [e1,e2]
  exact p5 (pre++[r']) z fin (by rw [←e1];exact hl) (by rw [←e1];exact hf)
theorem xiY {α:Type} (e:α→List PV) (c:α→Nat) {ρ:List (Nat×MM)} {ss:List (Option Eff×SV)}:∀(l:List α)
 (hel:∀x∈l,∀k,0≤k→k+40*(1+(c x:Int))≤1000000000000000→∃r' k',xcw ρ mtx ss (e x) k=some (r',k')∧k≤k'∧k'≤k+40*(1+(c x:Int)))
 (k:Int),0≤k→k+40*((l.length:Int)+(xbn c l:Int))≤1000000000000000→∃rows' k',xc9 ρ mtx ss (l.map e) k=some (rows',k')∧k≤k'∧k'≤k+40*((l.length:Int)+(xbn c l:Int))
 | [],hel,k,h0,hb=>⟨[],k,rfl,Int.le_refl _,by simp [xbn]⟩
 | x::l,hel,k,h0,hb=>by
  have hs:xbn c (x::l)=c x+xbn c l:=rfl
  rw [hs] at hb ⊢
  simp only [List.length_cons] at hb ⊢
  obtain ⟨r',k1,q1,q2,q3⟩:=hel x (by simp) k h0 (by omega)
  obtain ⟨rows',k',p1,p3,p4⟩:=xiY e c l (fun y hy=>hel y (by simp [hy])) k1 (by omega) (by omega)
  exact ⟨r'::rows',k',by simp only [List.map_cons,xc9,q1,p1],by omega,by omega⟩
theorem xd7 {ρ:List (Nat×MM)} {sz:Nat} {ss:List (Option Eff×SV)} {rows rows':List (List PV)} {k k':Int} (h1:rows.length<1000000000000000000) (h2:xc9 ρ mtx ss rows k=some (rows',k')):mkS ρ mtx sz ss (.list sz rows) k=some (.list sz rows',k'):=by
 simp only [mkS,true_and,h1,if_true,h2]
theorem xmK {ρ:List (Nat×MM)} {esz:Nat} {ss:List (Option Eff×SV)} {ps ps':List PV} {k k':Int} (h1:ps.length=esz) (h2:xcw ρ mtx ss ps k=some (ps',k')):mkT ρ mtx esz ss ps k=some (ps',k'):=by
 simp only [mkT,h1,if_true,h2]
theorem xq3 {α:Type} (l:List α):xbn (fun _:α=>0) l=0:=by
 induction l with
 | nil=>rfl
 | cons x l ih=>show 0+xbn _ l=0;rw [ih]
theorem xuv {α:Type} {f g:α→Nat} (h:∀x,f x=g x) (l:List α):xbn f l=xbn g l:=by rw [show f=g from funext h]
theorem xcI (l:List ByteArray) (k:Int) (h0:0≤k) (hb:k+40*(((l.length+xbn ByteArray.size l):Nat):Int)≤1000000000000000):∃p k',mk_StringS (strs l) k=some (p,k')∧k≤k'∧k'≤k+40*(((l.length+xbn ByteArray.size l):Nat):Int)∧∀K,call Qhe [.one p,.one (I k)] K=K [I k']:=by
 have hm:((l.length+xbn ByteArray.size l):Nat)=l.length+xbn (fun x:ByteArray=>x.size) l:=rfl
 rw [hm] at hb ⊢
 have hrow:∀(A:Prop) (B:PV→PV→PV→PV→Prop),∀x∈l,∀k,0≤k→k+40*(1+((fun x:ByteArray=>x.size) x:Int))≤1000000000000000→∃r' k',xcw mk_StringS_r mtx mk_StringS_s (rS x) k=some (r',k')∧k≤k'∧k'≤k+40*(1+((fun x:ByteArray=>x.size) x:Int))∧∀(rows:List (List PV)) (i:Nat) K z,rows[i]? = some r'→i<rows.length→rows.length≤1000000000000000→((fun L w=>Qhe_r0 w L A B) K [.list 1 rows,I k,z,I i]↔K [.list 1 rows,I k',z,I ((i:Int)+1)]):=by
  intro A B x hx k h0 hb
  have hle:(l.length:Int)≤1000000000000000:=by omega
  clear hle
  try dsimp only at hb ⊢
  have hb0:=hb
  refine ⟨[.str (mtx (k))],k+1,xaX rfl rfl rfl (wr1 (by omega) (by omega)) (rfl),by omega,by omega,fun rows i K z hr hi hn=>?_⟩
  have f0:=wr1 (k:=k) (by omega) (by omega)
  have f1:=laws_markText_n (k) (xcl (by omega) (by omega))
  have hlt:(i:Int)<(rows.length:Int):=by omega
  simp only [Qhe_r0,un,cur0,xaG,xan,hlt,decide_true,decide_false,xah,if_true,xdT hr,xaf,xbl,xbM,bne_self_eq_false,Bool.false_eq_true,if_false,xbh,xdW,Bool.not_true,xcP,xaD,xdV,f0,f1,xap (show i<1000000000000000000 by omega),true_and,ne_eq,not_false_eq_true]
 obtain ⟨rows',k',p1,p2,p3,p4,p5⟩:=xbS rS (fun x:ByteArray=>x.size) 1 l (hrow True fun _ _ _ _=>True) k h0 (by omega)
 have hle:(l.length:Int)≤1000000000000000:=by omega
 refine ⟨.list 1 rows',k',?_,p3,p4,fun K=>?_⟩
 ·exact xd7 (by rw [List.length_map];omega) p1
 ·refine (xaa (fun K=>?_) K)
  obtain ⟨rows2,k2,r1,r2,r3,r4,r5⟩:=xbS rS (fun x:ByteArray=>x.size) 1 l (hrow (rt [.sc] [(I (-1))] K) fun q6 q7 q8 q9=>rt [.sc] [q7] K) k h0 (by omega)
  have hs:=p1.symm.trans r1
  injection hs with hs;injection hs with hs1 hs2
  subst hs1;subst hs2
  have:=r5 [] (I 0) (K [I k']) (by rw [List.nil_append,p2];omega) fun K2=>by
   simp only [Qhe_r0,un,cur0,xaG,xan,Int.lt_irrefl,decide_false,xah,Bool.false_eq_true,if_false,List.nil_append,xav,xam,xai,xao,true_and]
  exact this
theorem xbi (l:List Int) (k:Int) (h0:0≤k) (hb:k+40*((l.length:Nat):Int)≤1000000000000000):∃p k',mk_IntS (ints l) k=some (p,k')∧k≤k'∧k'≤k+40*((l.length:Nat):Int)∧∀K,call Qhb [.one p,.one (I k)] K=K [I k']:=by
 have hm:(l.length:Nat)=l.length+xbn (fun x:Int=>0) l:=by rw [xq3];omega
 rw [hm] at hb ⊢
 have hrow:∀(A:Prop) (B:PV→PV→PV→PV→Prop),∀x∈l,∀k,0≤k→k+40*(1+((fun x:Int=>0) x:Int))≤1000000000000000→∃r' k',xcw mk_IntS_r mtx mk_IntS_s (rI x) k=some (r',k')∧k≤k'∧k'≤k+40*(1+((fun x:Int=>0) x:Int))∧∀(rows:List (List PV)) (i:Nat) K z,rows[i]? = some r'→i<rows.length→rows.length≤1000000000000000→((fun L w=>Qhb_r0 w L A B) K [.list 1 rows,I k,z,I i]↔K [.list 1 rows,I k',z,I ((i:Int)+1)]):=by
  intro A B x hx k h0 hb
  have hle:(l.length:Int)≤1000000000000000:=by omega
  clear hle
  try dsimp only at hb ⊢
  refine ⟨[I (k)],k+1,xaX rfl rfl rfl (wr1 (by omega) (by omega)) (rfl),by omega,by omega,fun rows i K z hr hi hn=>?_⟩
  have f0:=wr1 (k:=k) (by omega) (by omega)
  have hlt:(i:Int)<(rows.length:Int):=by omega
  simp only [Qhb_r0,un,cur0,xaG,xan,hlt,decide_true,decide_false,xah,if_true,xdT hr,xaf,xbl,xbM,bne_self_eq_false,Bool.false_eq_true,if_false,xbh,xdW,Bool.not_true,xcP,xaD,xdV,f0,xap (show i<1000000000000000000 by omega),true_and,ne_eq,not_false_eq_true]
 obtain ⟨rows',k',p1,p2,p3,p4,p5⟩:=xbS rI (fun x:Int=>0) 1 l (hrow True fun _ _ _ _=>True) k h0 (by omega)
 have hle:(l.length:Int)≤1000000000000000:=by omega
 refine ⟨.list 1 rows',k',?_,p3,p4,fun K=>?_⟩
 ·exact xd7 (by rw [List.length_map];omega) p1
 ·refine (xaa (fun K=>?_) K)
  obtain ⟨rows2,k2,r1,r2,r3,r4,r5⟩:=xbS rI (fun x:Int=>0) 1 l (hrow (rt [.sc] [(I (-1))] K) fun q6 q7 q8 q9=>rt [.sc] [q7] K) k h0 (by omega)
  have hs:=p1.symm.trans r1
  injection hs with hs;injection hs with hs1 hs2
  subst hs1;subst hs2
  have:=r5 [] (I 0) (K [I k']) (by rw [List.nil_append,p2];omega) fun K2=>by
   simp only [Qhb_r0,un,cur0,xaG,xan,Int.lt_irrefl,decide_false,xah,Bool.false_eq_true,if_false,List.nil_append,xav,xam,xai,xao,true_and]
  exact this
theorem xeQ (l:List xfD) (k:Int) (h0:0≤k) (hb:k+40*((l.length:Nat):Int)≤1000000000000000):∃p k',mk_SigS (.list 2 (l.map xck)) k=some (p,k')∧k≤k'∧k'≤k+40*((l.length:Nat):Int)∧∀K,call Qhc [.one p,.one (I k)] K=K [I k']:=by
 have hm:(l.length:Nat)=l.length+xbn (fun x:xfD=>0) l:=by rw [xq3];omega
 rw [hm] at hb ⊢
 have hrow:∀(A:Prop) (B:PV→PV→PV→PV→Prop),∀x∈l,∀k,0≤k→k+40*(1+((fun x:xfD=>0) x:Int))≤1000000000000000→∃r' k',xcw mk_SigS_r mtx mk_SigS_s (xck x) k=some (r',k')∧k≤k'∧k'≤k+40*(1+((fun x:xfD=>0) x:Int))∧∀(rows:List (List PV)) (i:Nat) K z,rows[i]? = some r'→i<rows.length→rows.length≤1000000000000000→((fun L w=>Qhc_r0 w L A B) K [.list 2 rows,I k,z,I i]↔K [.list 2 rows,I k',z,I ((i:Int)+1)]):=by
  intro A B x hx k h0 hb
  have hle:(l.length:Int)≤1000000000000000:=by omega
  clear hle
  try dsimp only at hb ⊢
  refine ⟨[I (k),I (k+1)],k+1+1,xaX rfl rfl rfl (wr1 (by omega) (by omega)) (xaX rfl rfl rfl (wr1 (by omega) (by omega)) (rfl)),by omega,by omega,fun rows i K z hr hi hn=>?_⟩
  have f0:=wr1 (k:=k) (by omega) (by omega)
  have f1:=wr1 (k:=k+1) (by omega) (by omega)
  have hlt:(i:Int)<(rows.length:Int):=by omega
  simp only [Qhc_r0,un,cur0,xaG,xan,hlt,decide_true,decide_false,xah,if_true,xdT hr,xaf,xbl,xbM,bne_self_eq_false,Bool.false_eq_true,if_false,xbh,xdW,Bool.not_true,xcP,xaD,xdV,f0,f1,xap (show i<1000000000000000000 by omega),true_and,ne_eq,not_false_eq_true]
 obtain ⟨rows',k',p1,p2,p3,p4,p5⟩:=xbS xck (fun x:xfD=>0) 2 l (hrow True fun _ _ _ _=>True) k h0 (by omega)
 have hle:(l.length:Int)≤1000000000000000:=by omega
 refine ⟨.list 2 rows',k',?_,p3,p4,fun K=>?_⟩
 ·exact xd7 (by rw [List.length_map];omega) p1
 ·refine (xaa (fun K=>?_) K)
  obtain ⟨rows2,k2,r1,r2,r3,r4,r5⟩:=xbS xck (fun x:xfD=>0) 2 l (hrow (rt [.sc] [(I (-1))] K) fun q6 q7 q8 q9=>rt [.sc] [q7] K) k h0 (by omega)
  have hs:=p1.symm.trans r1
  injection hs with hs;injection hs with hs1 hs2
  subst hs1;subst hs2
  have:=r5 [] (I 0) (K [I k']) (by rw [List.nil_append,p2];omega) fun K2=>by
   simp only [Qhc_r0,un,cur0,xaG,xan,Int.lt_irrefl,decide_false,xah,Bool.false_eq_true,if_false,List.nil_append,xav,xam,xai,xao,true_and]
  exact this
theorem xfO (l:List xag) (k:Int) (h0:0≤k) (hb:k+40*((xaq l:Nat):Int)≤1000000000000000):∃p k',mk_SignedS (.list 17 (l.map xal)) k=some (p,k')∧k≤k'∧k'≤k+40*((xaq l:Nat):Int)∧∀K,call Qhd [.one p,.one (I k)] K=K [I k']:=by
 have hm:xaq l=l.length+xbn (fun x:xag=>xau x) l:=rfl
 rw [hm] at hb ⊢
 have hrow:∀(A:Prop) (B:PV→PV→PV→PV→Prop),∀x∈l,∀k,0≤k→k+40*(1+((fun x:xag=>xau x) x:Int))≤1000000000000000→∃r' k',xcw mk_SignedS_r mtx mk_SignedS_s (xal x) k=some (r',k')∧k≤k'∧k'≤k+40*(1+((fun x:xag=>xau x) x:Int))∧∀(rows:List (List PV)) (i:Nat) K z,rows[i]? = some r'→i<rows.length→rows.length≤1000000000000000→((fun L w=>Qhd_r0 w L A A A A A B) K [.list 17 rows,I k,z,I i]↔K [.list 17 rows,I k',z,I ((i:Int)+1)]):=by
  intro A B x hx k h0 hb
  have hle:(l.length:Int)≤1000000000000000:=by omega
  clear hle
  try dsimp only at hb ⊢
  simp only [xbu,xbf,xau] at hb ⊢
  obtain ⟨p1,k1,e1,l1,u1,g1⟩:=xbi x.Head.Keys.Lst (k+1+1+1+1+1+1+1+1) (by omega) (by omega)
  obtain ⟨p2,k2,e2,l2,u2,g2⟩:=xbi x.Head.Heirs.Lst (k1+1) (by omega) (by omega)
  obtain ⟨p3,k3,e3,l3,u3,g3⟩:=xbi x.Head.Judge.Lst (k2+1+1) (by omega) (by omega)
  obtain ⟨p4,k4,e4,l4,u4,g4⟩:=xeQ x.Sigs (k3+1+1) (by omega) (by omega)
  refine ⟨[I (k),I (k+1),I (k+1+1),I (k+1+1+1),I (k+1+1+1+1),I (k+1+1+1+1+1),I (k+1+1+1+1+1+1),I (k+1+1+1+1+1+1+1),p1,I (k1),p2,I (k2),I (k2+1),p3,I (k3),.bool ((k3+1).tmod 3==0),p4],k4,xaX rfl rfl rfl (wr1 (by omega) (by omega)) (xaX rfl rfl rfl (wr1 (by omega) (by omega)) (xaX rfl rfl rfl (wr1 (by omega) (by omega)) (xaX rfl rfl rfl (wr1 (by omega) (by omega)) (xaX (r1:=[I (k),I (k+1),I (k+1+1),I (k+1+1+1),I (k+1+1+1+1),I x.Head.Count,I x.Head.Root,I x.Head.Prev,ints x.Head.Keys.Lst,I x.Head.Keys.Need,ints x.Head.Heirs.Lst,I x.Head.Heirs.Need,I x.Head.Wait,ints x.Head.Judge.Lst,I x.Head.Judge.Need,.bool x.Head.Frozen,.list 2 (x.Sigs.map xck)]) rfl rfl rfl (wr1 (by omega) (by omega)) (xaX rfl rfl rfl (wr1 (by omega) (by omega)) (xaX rfl rfl rfl (wr1 (by omega) (by omega)) (xaX rfl rfl rfl (wr1 (by omega) (by omega)) (xcE rfl rfl e1 rfl (xcl (by omega) (by omega)) (xaX (r1:=[I (k),I (k+1),I (k+1+1),I (k+1+1+1),I (k+1+1+1+1),I (k+1+1+1+1+1),I (k+1+1+1+1+1+1),I (k+1+1+1+1+1+1+1),p1,I (k1),ints x.Head.Heirs.Lst,I x.Head.Heirs.Need,I x.Head.Wait,ints x.Head.Judge.Lst,I x.Head.Judge.Need,.bool x.Head.Frozen,.list 2 (x.Sigs.map xck)]) rfl rfl rfl (wr1 (by omega) (by omega)) (xcE rfl rfl e2 rfl (xcl (by omega) (by omega)) (xaX rfl rfl rfl (wr1 (by omega) (by omega)) (xaX rfl rfl rfl (wr1 (by omega) (by omega)) (xcE rfl rfl e3 rfl (xcl (by omega) (by omega)) (xaX (r1:=[I (k),I (k+1),I (k+1+1),I (k+1+1+1),I (k+1+1+1+1),I (k+1+1+1+1+1),I (k+1+1+1+1+1+1),I (k+1+1+1+1+1+1+1),p1,I (k1),p2,I (k2),I (k2+1),p3,I (k3),.bool x.Head.Frozen,.list 2 (x.Sigs.map xck)]) rfl rfl rfl (wr1 (by omega) (by omega)) (xaX rfl rfl rfl (wr1 (by omega) (by omega)) (xcE rfl rfl e4 rfl (xcl (by omega) (by omega)) (rfl))))))))))))))))),by omega,by omega,fun rows i K z hr hi hn=>?_⟩
  have f0:=wr1 (k:=k) (by omega) (by omega)
  have f1:=wr1 (k:=k+1) (by omega) (by omega)
  have f2:=wr1 (k:=k+1+1) (by omega) (by omega)
  have f3:=wr1 (k:=k+1+1+1) (by omega) (by omega)
  have f4:=wr1 (k:=k+1+1+1+1) (by omega) (by omega)
  have f5:=wr1 (k:=k+1+1+1+1+1) (by omega) (by omega)
  have f6:=wr1 (k:=k+1+1+1+1+1+1) (by omega) (by omega)
  have f7:=wr1 (k:=k+1+1+1+1+1+1+1) (by omega) (by omega)
  have f9:¬(k1<0):=by omega
  have f10:=wr1 (k:=k1) (by omega) (by omega)
  have f12:¬(k2<0):=by omega
  have f13:=wr1 (k:=k2) (by omega) (by omega)
  have f14:=wr1 (k:=k2+1) (by omega) (by omega)
  have f16:¬(k3<0):=by omega
  have f17:=wr1 (k:=k3) (by omega) (by omega)
  have f18:=wr1 (k:=k3+1) (by omega) (by omega)
  have f20:¬(k4<0):=by omega
  have hlt:(i:Int)<(rows.length:Int):=by omega
  simp only [Qhd_r0,un,cur0,xaG,xan,hlt,decide_true,decide_false,xah,if_true,xdT hr,xaf,xbl,xbM,bne_self_eq_false,Bool.false_eq_true,if_false,xbh,xdW,Bool.not_true,xcP,xaD,xdV,f0,f1,f2,f3,f4,f5,f6,f7,g1,f9,f10,g2,f12,f13,f14,g3,f16,f17,f18,g4,f20,xap (show i<1000000000000000000 by omega),true_and,ne_eq,not_false_eq_true]
  simp
 obtain ⟨rows',k',p1,p2,p3,p4,p5⟩:=xbS xal (fun x:xag=>xau x) 17 l (hrow True fun _ _ _ _=>True) k h0 (by omega)
 have hle:(l.length:Int)≤1000000000000000:=by omega
 refine ⟨.list 17 rows',k',?_,p3,p4,fun K=>?_⟩
 ·exact xd7 (by rw [List.length_map];omega) p1
 ·refine (xaa (fun K=>?_) K)
  obtain ⟨rows2,k2,r1,r2,r3,r4,r5⟩:=xbS xal (fun x:xag=>xau x) 17 l (hrow (rt [.sc] [(I (-1))] K) fun q6 q7 q8 q9=>rt [.sc] [q7] K) k h0 (by omega)
  have hs:=p1.symm.trans r1
  injection hs with hs;injection hs with hs1 hs2
  subst hs1;subst hs2
  have:=r5 [] (I 0) (K [I k']) (by rw [List.nil_append,p2];omega) fun K2=>by
   simp only [Qhd_r0,un,cur0,xaG,xan,Int.lt_irrefl,decide_false,xah,Bool.false_eq_true,if_false,List.nil_append,xav,xam,xai,xao,true_and]
  exact this
theorem xjM (l:List xbz) (k:Int) (h0:0≤k) (hb:k+40*((xcg l:Nat):Int)≤1000000000000000):∃p k',mk_StoredS (.list 23 (l.map xa4)) k=some (p,k')∧k≤k'∧k'≤k+40*((xcg l:Nat):Int)∧True:=by
 have hm:xcg l=l.length+xbn (fun x:xbz=>xbq x) l:=rfl
 rw [hm] at hb ⊢
 have hrow:∀x∈l,∀k,0≤k→k+40*(1+((fun x:xbz=>xbq x) x:Int))≤1000000000000000→∃r' k',xcw mk_StoredS_r mtx mk_StoredS_s (xa4 x) k=some (r',k')∧k≤k'∧k'≤k+40*(1+((fun x:xbz=>xbq x) x:Int)):=by
  intro x hx k h0 hb
  have hle:(l.length:Int)≤1000000000000000:=by omega
  clear hle
  try dsimp only at hb ⊢
  simp only [xaK,xax,xgI,xba,xbq] at hb ⊢
  obtain ⟨p1,k1,e1,l1,u1,g1⟩:=xfO x.Answer.Chain (k+1+1) (by omega) (by omega)
  obtain ⟨p2,k2,e2,l2,u2,g2⟩:=xcI x.Answer.Entry.Path (k1+1+1+1+1) (by omega) (by omega)
  obtain ⟨p3,k3,e3,l3,u3,g3⟩:=xbi x.Answer.Proof.Path (k2+1) (by omega) (by omega)
  obtain ⟨p4,k4,e4,l4,u4,g4⟩:=xcI x.Answer.Gap.Before.Path (k3+1+1+1+1) (by omega) (by omega)
  obtain ⟨p5,k5,e5,l5,u5,g5⟩:=xcI x.Answer.Gap.After.Path (k4+1+1+1) (by omega) (by omega)
  obtain ⟨p6,k6,e6,l6,u6,g6⟩:=xbi x.Answer.Gap.Left.Path (k5+1) (by omega) (by omega)
  obtain ⟨p7,k7,e7,l7,u7,g7⟩:=xbi x.Answer.Gap.Right.Path (k6+1) (by omega) (by omega)
  exact ⟨[I (k),.str (mtx (k+1)),p1,.bool ((k1).tmod 3==0),.str (mtx (k1+1)),I (k1+1+1),I (k1+1+1+1),p2,I (k2),p3,I (k3),.str (mtx (k3+1)),I (k3+1+1),I (k3+1+1+1),p4,.str (mtx (k4)),I (k4+1),I (k4+1+1),p5,I (k5),p6,I (k6),p7],k7,xaX rfl rfl rfl (wr1 (by omega) (by omega)) (xaX rfl rfl rfl (wr1 (by omega) (by omega)) (xcE rfl rfl e1 rfl (xcl (by omega) (by omega)) (xaX rfl rfl rfl (wr1 (by omega) (by omega)) (xaX (r1:=[I (k),.str (mtx (k+1)),p1,.bool ((k1).tmod 3==0),.str (mtx (k1+1)),I x.Answer.Entry.Kind,I x.Answer.Entry.Value,strs x.Answer.Entry.Path,I x.Answer.Proof.At,ints x.Answer.Proof.Path,I x.Answer.Gap.At,.str x.Answer.Gap.Before.Label,I x.Answer.Gap.Before.Kind,I x.Answer.Gap.Before.Value,strs x.Answer.Gap.Before.Path,.str x.Answer.Gap.After.Label,I x.Answer.Gap.After.Kind,I x.Answer.Gap.After.Value,strs x.Answer.Gap.After.Path,I x.Answer.Gap.Left.At,ints x.Answer.Gap.Left.Path,I x.Answer.Gap.Right.At,ints x.Answer.Gap.Right.Path]) rfl rfl rfl (wr1 (by omega) (by omega)) (xaX rfl rfl rfl (wr1 (by omega) (by omega)) (xaX rfl rfl rfl (wr1 (by omega) (by omega)) (xcE rfl rfl e2 rfl (xcl (by omega) (by omega)) (xaX rfl rfl rfl (wr1 (by omega) (by omega)) (xcE (r1:=[I (k),.str (mtx (k+1)),p1,.bool ((k1).tmod 3==0),.str (mtx (k1+1)),I (k1+1+1),I (k1+1+1+1),p2,I (k2),p3,I x.Answer.Gap.At,.str x.Answer.Gap.Before.Label,I x.Answer.Gap.Before.Kind,I x.Answer.Gap.Before.Value,strs x.Answer.Gap.Before.Path,.str x.Answer.Gap.After.Label,I x.Answer.Gap.After.Kind,I x.Answer.Gap.After.Value,strs x.Answer.Gap.After.Path,I x.Answer.Gap.Left.At,ints x.Answer.Gap.Left.Path,I x.Answer.Gap.Right.At,ints x.Answer.Gap.Right.Path]) rfl rfl e3 rfl (xcl (by omega) (by omega)) (xaX rfl rfl rfl (wr1 (by omega) (by omega)) (xaX rfl rfl rfl (wr1 (by omega) (by omega)) (xaX rfl rfl rfl (wr1 (by omega) (by omega)) (xaX rfl rfl rfl (wr1 (by omega) (by omega)) (xcE (r1:=[I (k),.str (mtx (k+1)),p1,.bool ((k1).tmod 3==0),.str (mtx (k1+1)),I (k1+1+1),I (k1+1+1+1),p2,I (k2),p3,I (k3),.str (mtx (k3+1)),I (k3+1+1),I (k3+1+1+1),p4,.str x.Answer.Gap.After.Label,I x.Answer.Gap.After.Kind,I x.Answer.Gap.After.Value,strs x.Answer.Gap.After.Path,I x.Answer.Gap.Left.At,ints x.Answer.Gap.Left.Path,I x.Answer.Gap.Right.At,ints x.Answer.Gap.Right.Path]) rfl rfl e4 rfl (xcl (by omega) (by omega)) (xaX rfl rfl rfl (wr1 (by omega) (by omega)) (xaX rfl rfl rfl (wr1 (by omega) (by omega)) (xaX rfl rfl rfl (wr1 (by omega) (by omega)) (xcE rfl rfl e5 rfl (xcl (by omega) (by omega)) (xaX (r1:=[I (k),.str (mtx (k+1)),p1,.bool ((k1).tmod 3==0),.str (mtx (k1+1)),I (k1+1+1),I (k1+1+1+1),p2,I (k2),p3,I (k3),.str (mtx (k3+1)),I (k3+1+1),I (k3+1+1+1),p4,.str (mtx (k4)),I (k4+1),I (k4+1+1),p5,I (k5),ints x.Answer.Gap.Left.Path,I x.Answer.Gap.Right.At,ints x.Answer.Gap.Right.Path]) rfl rfl rfl (wr1 (by omega) (by omega)) (xcE rfl rfl e6 rfl (xcl (by omega) (by omega)) (xaX rfl rfl rfl (wr1 (by omega) (by omega)) (xcE rfl rfl e7 rfl (xcl (by omega) (by omega)) (rfl))))))))))))))))))))))),by omega,by omega⟩
 obtain ⟨rows',k',p1,p3,p4⟩:=xiY xa4 (fun x:xbz=>xbq x) l hrow k h0 (by omega)
 exact ⟨.list 23 rows',k',xd7 (by rw [List.length_map];omega) p1,p3,p4,trivial⟩
theorem xkE (a:xcU) (k:Int) (h0:0≤k) (hb:k+40*((xb9 a:Nat):Int)≤1000000000000000):∃c_1 c_2 k',mk_Bundle (xc7 a) k=some ([I a.Root,c_1,c_2],k')∧k≤k'∧k'≤k+40*((xb9 a:Nat):Int)∧True:=by
 simp only [xb9] at hb ⊢
 obtain ⟨p1,k1,e1,l1,u1,g1⟩:=xcI a.Path (k) (by omega) (by omega)
 obtain ⟨p2,k2,e2,l2,u2,g2⟩:=xjM a.Steps (k1) (by omega) (by omega)
 refine ⟨p1,p2,k2,?_,by omega,by omega,trivial⟩
 ·exact xmK rfl (xcE rfl rfl e1 rfl (xcl (by omega) (by omega)) (xcE rfl rfl e2 rfl (xcl (by omega) (by omega)) (rfl)))
theorem xiC (l:List (List xag)) (k:Int) (h0:0≤k) (hb:k+40*((xc1 l:Nat):Int)≤1000000000000000):∃p k',mk_SignedSS (.list 1 (l.map (fun l:List xag=>[.list 17 (l.map xal)]))) k=some (p,k')∧k≤k'∧k'≤k+40*((xc1 l:Nat):Int)∧∀K,call Qhf [.one p,.one (I k)] K=K [I k']:=by
 have hm:xc1 l=l.length+xbn (fun x:List xag=>xaq x) l:=rfl
 rw [hm] at hb ⊢
 have hrow:∀(A:Prop) (B:PV→PV→PV→PV→Prop),∀x∈l,∀k,0≤k→k+40*(1+((fun x:List xag=>xaq x) x:Int))≤1000000000000000→∃r' k',xcw mk_SignedSS_r mtx mk_SignedSS_s ((fun l:List xag=>[.list 17 (l.map xal)]) x) k=some (r',k')∧k≤k'∧k'≤k+40*(1+((fun x:List xag=>xaq x) x:Int))∧∀(rows:List (List PV)) (i:Nat) K z,rows[i]? = some r'→i<rows.length→rows.length≤1000000000000000→((fun L w=>Qhf_r0 w L A B) K [.list 1 rows,I k,z,I i]↔K [.list 1 rows,I k',z,I ((i:Int)+1)]):=by
  intro A B x hx k h0 hb
  have hle:(l.length:Int)≤1000000000000000:=by omega
  clear hle
  try dsimp only at hb ⊢
  have hb0:=hb
  obtain ⟨p1,k1,e1,l1,u1,g1⟩:=xfO x (k) (by omega) (by omega)
  refine ⟨[p1],k1,xcE rfl rfl e1 rfl (xcl (by omega) (by omega)) (rfl),by omega,by omega,fun rows i K z hr hi hn=>?_⟩
  have f1:¬(k1<0):=by omega
  have hlt:(i:Int)<(rows.length:Int):=by omega
  simp only [Qhf_r0,un,cur0,xaG,xan,hlt,decide_true,decide_false,xah,if_true,xdT hr,xaf,xbl,xbM,bne_self_eq_false,Bool.false_eq_true,if_false,xbh,xdW,Bool.not_true,xcP,xaD,xdV,g1,f1,xap (show i<1000000000000000000 by omega),true_and,ne_eq,not_false_eq_true]
 obtain ⟨rows',k',p1,p2,p3,p4,p5⟩:=xbS (fun l:List xag=>[.list 17 (l.map xal)]) (fun x:List xag=>xaq x) 1 l (hrow True fun _ _ _ _=>True) k h0 (by omega)
 have hle:(l.length:Int)≤1000000000000000:=by omega
 refine ⟨.list 1 rows',k',?_,p3,p4,fun K=>?_⟩
 ·exact xd7 (by rw [List.length_map];omega) p1
 ·refine (xaa (fun K=>?_) K)
  obtain ⟨rows2,k2,r1,r2,r3,r4,r5⟩:=xbS (fun l:List xag=>[.list 17 (l.map xal)]) (fun x:List xag=>xaq x) 1 l (hrow (rt [.sc] [(I (-1))] K) fun q6 q7 q8 q9=>rt [.sc] [q7] K) k h0 (by omega)
  have hs:=p1.symm.trans r1
  injection hs with hs;injection hs with hs1 hs2
  subst hs1;subst hs2
  have:=r5 [] (I 0) (K [I k']) (by rw [List.nil_append,p2];omega) fun K2=>by
   simp only [Qhf_r0,un,cur0,xaG,xan,Int.lt_irrefl,decide_false,xah,Bool.false_eq_true,if_false,List.nil_append,xav,xam,xai,xao,true_and]
  exact this
theorem xlP (l:List xcT) (k:Int) (h0:0≤k) (hb:k+40*((xgJ l:Nat):Int)≤1000000000000000):∃p k',mk_ForkS (.list 51 (l.map xbw)) k=some (p,k')∧k≤k'∧k'≤k+40*((xgJ l:Nat):Int)∧∀K,call Qhg [.one p,.one (I k)] K=K [I k']:=by
 have hm:xgJ l=l.length+xbn (fun x:xcT=>xfr x) l:=rfl
 rw [hm] at hb ⊢
 have hrow:∀(A:Prop) (B:PV→PV→PV→PV→Prop),∀x∈l,∀k,0≤k→k+40*(1+((fun x:xcT=>xfr x) x:Int))≤1000000000000000→∃r' k',xcw mk_ForkS_r mtx mk_ForkS_s (xbw x) k=some (r',k')∧k≤k'∧k'≤k+40*(1+((fun x:xcT=>xfr x) x:Int))∧∀(rows:List (List PV)) (i:Nat) K z,rows[i]? = some r'→i<rows.length→rows.length≤1000000000000000→((fun L w=>Qhg_r0 w L B A A A A A A A A A A A A A) K [.list 51 rows,I k,z,I i]↔K [.list 51 rows,I k',z,I ((i:Int)+1)]):=by
  intro A B x hx k h0 hb
  have hle:(l.length:Int)≤1000000000000000:=by omega
  clear hle
  try dsimp only at hb ⊢
  simp only [xfr,xbu,xbf,xau] at hb ⊢
  obtain ⟨p1,k1,e1,l1,u1,g1⟩:=xbi x.Before.Head.Keys.Lst (k+1+1+1+1+1+1+1+1) (by omega) (by omega)
  obtain ⟨p2,k2,e2,l2,u2,g2⟩:=xbi x.Before.Head.Heirs.Lst (k1+1) (by omega) (by omega)
  obtain ⟨p3,k3,e3,l3,u3,g3⟩:=xbi x.Before.Head.Judge.Lst (k2+1+1) (by omega) (by omega)
  obtain ⟨p4,k4,e4,l4,u4,g4⟩:=xeQ x.Before.Sigs (k3+1+1) (by omega) (by omega)
  obtain ⟨p5,k5,e5,l5,u5,g5⟩:=xbi x.A.Head.Keys.Lst (k4+1+1+1+1+1+1+1+1) (by omega) (by omega)
  obtain ⟨p6,k6,e6,l6,u6,g6⟩:=xbi x.A.Head.Heirs.Lst (k5+1) (by omega) (by omega)
  obtain ⟨p7,k7,e7,l7,u7,g7⟩:=xbi x.A.Head.Judge.Lst (k6+1+1) (by omega) (by omega)
  obtain ⟨p8,k8,e8,l8,u8,g8⟩:=xeQ x.A.Sigs (k7+1+1) (by omega) (by omega)
  obtain ⟨p9,k9,e9,l9,u9,g9⟩:=xbi x.B.Head.Keys.Lst (k8+1+1+1+1+1+1+1+1) (by omega) (by omega)
  obtain ⟨p10,k10,e10,l10,u10,g10⟩:=xbi x.B.Head.Heirs.Lst (k9+1) (by omega) (by omega)
  obtain ⟨p11,k11,e11,l11,u11,g11⟩:=xbi x.B.Head.Judge.Lst (k10+1+1) (by omega) (by omega)
  obtain ⟨p12,k12,e12,l12,u12,g12⟩:=xeQ x.B.Sigs (k11+1+1) (by omega) (by omega)
  refine ⟨[I (k),I (k+1),I (k+1+1),I (k+1+1+1),I (k+1+1+1+1),I (k+1+1+1+1+1),I (k+1+1+1+1+1+1),I (k+1+1+1+1+1+1+1),p1,I (k1),p2,I (k2),I (k2+1),p3,I (k3),.bool ((k3+1).tmod 3==0),p4,I (k4),I (k4+1),I (k4+1+1),I (k4+1+1+1),I (k4+1+1+1+1),I (k4+1+1+1+1+1),I (k4+1+1+1+1+1+1),I (k4+1+1+1+1+1+1+1),p5,I (k5),p6,I (k6),I (k6+1),p7,I (k7),.bool ((k7+1).tmod 3==0),p8,I (k8),I (k8+1),I (k8+1+1),I (k8+1+1+1),I (k8+1+1+1+1),I (k8+1+1+1+1+1),I (k8+1+1+1+1+1+1),I (k8+1+1+1+1+1+1+1),p9,I (k9),p10,I (k10),I (k10+1),p11,I (k11),.bool ((k11+1).tmod 3==0),p12],k12,xaX rfl rfl rfl (wr1 (by omega) (by omega)) (xaX rfl rfl rfl (wr1 (by omega) (by omega)) (xaX rfl rfl rfl (wr1 (by omega) (by omega)) (xaX rfl rfl rfl (wr1 (by omega) (by omega)) (xaX (r1:=[I (k),I (k+1),I (k+1+1),I (k+1+1+1),I (k+1+1+1+1),I x.Before.Head.Count,I x.Before.Head.Root,I x.Before.Head.Prev,ints x.Before.Head.Keys.Lst,I x.Before.Head.Keys.Need,ints x.Before.Head.Heirs.Lst,I x.Before.Head.Heirs.Need,I x.Before.Head.Wait,ints x.Before.Head.Judge.Lst,I x.Before.Head.Judge.Need,.bool x.Before.Head.Frozen,.list 2 (x.Before.Sigs.map xck),I x.A.Head.Zone,I x.A.Head.Epoch,I x.A.Head.Kind,I x.A.Head.Time,I x.A.Head.Until,I x.A.Head.Count,I x.A.Head.Root,I x.A.Head.Prev,ints x.A.Head.Keys.Lst,I x.A.Head.Keys.Need,ints x.A.Head.Heirs.Lst,I x.A.Head.Heirs.Need,I x.A.Head.Wait,ints x.A.Head.Judge.Lst,I x.A.Head.Judge.Need,.bool x.A.Head.Frozen,.list 2 (x.A.Sigs.map xck),I x.B.Head.Zone,I x.B.Head.Epoch,I x.B.Head.Kind,I x.B.Head.Time,I x.B.Head.Until,I x.B.Head.Count,I x.B.Head.Root,I x.B.Head.Prev,ints x.B.Head.Keys.Lst,I x.B.Head.Keys.Need,ints x.B.Head.Heirs.Lst,I x.B.Head.Heirs.Need,I x.B.Head.Wait,ints x.B.Head.Judge.Lst,I x.B.Head.Judge.Need,.bool x.B.Head.Frozen,.list 2 (x.B.Sigs.map xck)]) rfl rfl rfl (wr1 (by omega) (by omega)) (xaX rfl rfl rfl (wr1 (by omega) (by omega)) (xaX rfl rfl rfl (wr1 (by omega) (by omega)) (xaX rfl rfl rfl (wr1 (by omega) (by omega)) (xcE rfl rfl e1 rfl (xcl (by omega) (by omega)) (xaX (r1:=[I (k),I (k+1),I (k+1+1),I (k+1+1+1),I (k+1+1+1+1),I (k+1+1+1+1+1),I (k+1+1+1+1+1+1),I (k+1+1+1+1+1+1+1),p1,I (k1),ints x.Before.Head.Heirs.Lst,I x.Before.Head.Heirs.Need,I x.Before.Head.Wait,ints x.Before.Head.Judge.Lst,I x.Before.Head.Judge.Need,.bool x.Before.Head.Frozen,.list 2 (x.Before.Sigs.map xck),I x.A.Head.Zone,I x.A.Head.Epoch,I x.A.Head.Kind,I x.A.Head.Time,I x.A.Head.Until,I x.A.Head.Count,I x.A.Head.Root,I x.A.Head.Prev,ints x.A.Head.Keys.Lst,I x.A.Head.Keys.Need,ints x.A.Head.Heirs.Lst,I x.A.Head.Heirs.Need,I x.A.Head.Wait,ints x.A.Head.Judge.Lst,I x.A.Head.Judge.Need,.bool x.A.Head.Frozen,.list 2 (x.A.Sigs.map xck),I x.B.Head.Zone,I x.B.Head.Epoch,I x.B.Head.Kind,I x.B.Head.Time,I x.B.Head.Until,I x.B.Head.Count,I x.B.Head.Root,I x.B.Head.Prev,ints x.B.Head.Keys.Lst,I x.B.Head.Keys.Need,ints x.B.Head.Heirs.Lst,I x.B.Head.Heirs.Need,I x.B.Head.Wait,ints x.B.Head.Judge.Lst,I x.B.Head.Judge.Need,.bool x.B.Head.Frozen,.list 2 (x.B.Sigs.map xck)]) rfl rfl rfl (wr1 (by omega) (by omega)) (xcE rfl rfl e2 rfl (xcl (by omega) (by omega)) (xaX rfl rfl rfl (wr1 (by omega) (by omega)) (xaX rfl rfl rfl (wr1 (by omega) (by omega)) (xcE rfl rfl e3 rfl (xcl (by omega) (by omega)) (xaX (r1:=[I (k),I (k+1),I (k+1+1),I (k+1+1+1),I (k+1+1+1+1),I (k+1+1+1+1+1),I (k+1+1+1+1+1+1),I (k+1+1+1+1+1+1+1),p1,I (k1),p2,I (k2),I (k2+1),p3,I (k3),.bool x.Before.Head.Frozen,.list 2 (x.Before.Sigs.map xck),I x.A.Head.Zone,I x.A.Head.Epoch,I x.A.Head.Kind,I x.A.Head.Time,I x.A.Head.Until,I x.A.Head.Count,I x.A.Head.Root,I x.A.Head.Prev,ints x.A.Head.Keys.Lst,I x.A.Head.Keys.Need,ints x.A.Head.Heirs.Lst,I x.A.Head.Heirs.Need,I x.A.Head.Wait,ints x.A.Head.Judge.Lst,I x.A.Head.Judge.Need,.bool x.A.Head.Frozen,.list 2 (x.A.Sigs.map xck),I x.B.Head.Zone,I x.B.Head.Epoch,I x.B.Head.Kind,I x.B.Head.Time,I x.B.Head.Until,I x.B.Head.Count,I x.B.Head.Root,I x.B.Head.Prev,ints x.B.Head.Keys.Lst,I x.B.Head.Keys.Need,ints x.B.Head.Heirs.Lst,I x.B.Head.Heirs.Need,I x.B.Head.Wait,ints x.B.Head.Judge.Lst,I x.B.Head.Judge.Need,.bool x.B.Head.Frozen,.list 2 (x.B.Sigs.map xck)]) rfl rfl rfl (wr1 (by omega) (by omega)) (xaX rfl rfl rfl (wr1 (by omega) (by omega)) (xcE rfl rfl e4 rfl (xcl (by omega) (by omega)) (xaX rfl rfl rfl (wr1 (by omega) (by omega)) (xaX rfl rfl rfl (wr1 (by omega) (by omega)) (xaX (r1:=[I (k),I (k+1),I (k+1+1),I (k+1+1+1),I (k+1+1+1+1),I (k+1+1+1+1+1),I (k+1+1+1+1+1+1),I (k+1+1+1+1+1+1+1),p1,I (k1),p2,I (k2),I (k2+1),p3,I (k3),.bool ((k3+1).tmod 3==0),p4,I (k4),I (k4+1),I (k4+1+1),I x.A.Head.Time,I x.A.Head.Until,I x.A.Head.Count,I x.A.Head.Root,I x.A.Head.Prev,ints x.A.Head.Keys.Lst,I x.A.Head.Keys.Need,ints x.A.Head.Heirs.Lst,I x.A.Head.Heirs.Need,I x.A.Head.Wait,ints x.A.Head.Judge.Lst,I x.A.Head.Judge.Need,.bool x.A.Head.Frozen,.list 2 (x.A.Sigs.map xck),I x.B.Head.Zone,I x.B.Head.Epoch,I x.B.Head.Kind,I x.B.Head.Time,I x.B.Head.Until,I x.B.Head.Count,I x.B.Head.Root,I x.B.Head.Prev,ints x.B.Head.Keys.Lst,I x.B.Head.Keys.Need,ints x.B.Head.Heirs.Lst,I x.B.Head.Heirs.Need,I x.B.Head.Wait,ints x.B.Head.Judge.Lst,I x.B.Head.Judge.Need,.bool x.B.Head.Frozen,.list 2 (x.B.Sigs.map xck)]) rfl rfl rfl (wr1 (by omega) (by omega)) (xaX rfl rfl rfl (wr1 (by omega) (by omega)) (xaX rfl rfl rfl (wr1 (by omega) (by omega)) (xaX rfl rfl rfl (wr1 (by omega) (by omega)) (xaX rfl rfl rfl (wr1 (by omega) (by omega)) (xaX (r1:=[I (k),I (k+1),I (k+1+1),I (k+1+1+1),I (k+1+1+1+1),I (k+1+1+1+1+1),I (k+1+1+1+1+1+1),I (k+1+1+1+1+1+1+1),p1,I (k1),p2,I (k2),I (k2+1),p3,I (k3),.bool ((k3+1).tmod 3==0),p4,I (k4),I (k4+1),I (k4+1+1),I (k4+1+1+1),I (k4+1+1+1+1),I (k4+1+1+1+1+1),I (k4+1+1+1+1+1+1),I (k4+1+1+1+1+1+1+1),ints x.A.Head.Keys.Lst,I x.A.Head.Keys.Need,ints x.A.Head.Heirs.Lst,I x.A.Head.Heirs.Need,I x.A.Head.Wait,ints x.A.Head.Judge.Lst,I x.A.Head.Judge.Need,.bool x.A.Head.Frozen,.list 2 (x.A.Sigs.map xck),I x.B.Head.Zone,I x.B.Head.Epoch,I x.B.Head.Kind,I x.B.Head.Time,I x.B.Head.Until,I x.B.Head.Count,I x.B.Head.Root,I x.B.Head.Prev,ints x.B.Head.Keys.Lst,I x.B.Head.Keys.Need,ints x.B.Head.Heirs.Lst,I x.B.Head.Heirs.Need,I x.B.Head.Wait,ints x.B.Head.Judge.Lst,I x.B.Head.Judge.Need,.bool x.B.Head.Frozen,.list 2 (x.B.Sigs.map xck)]) rfl rfl rfl (wr1 (by omega) (by omega)) (xcE rfl rfl e5 rfl (xcl (by omega) (by omega)) (xaX rfl rfl rfl (wr1 (by omega) (by omega)) (xcE rfl rfl e6 rfl (xcl (by omega) (by omega)) (xaX rfl rfl rfl (wr1 (by omega) (by omega)) (xaX (r1:=[I (k),I (k+1),I (k+1+1),I (k+1+1+1),I (k+1+1+1+1),I (k+1+1+1+1+1),I (k+1+1+1+1+1+1),I (k+1+1+1+1+1+1+1),p1,I (k1),p2,I (k2),I (k2+1),p3,I (k3),.bool ((k3+1).tmod 3==0),p4,I (k4),I (k4+1),I (k4+1+1),I (k4+1+1+1),I (k4+1+1+1+1),I (k4+1+1+1+1+1),I (k4+1+1+1+1+1+1),I (k4+1+1+1+1+1+1+1),p5,I (k5),p6,I (k6),I (k6+1),ints x.A.Head.Judge.Lst,I x.A.Head.Judge.Need,.bool x.A.Head.Frozen,.list 2 (x.A.Sigs.map xck),I x.B.Head.Zone,I x.B.Head.Epoch,I x.B.Head.Kind,I x.B.Head.Time,I x.B.Head.Until,I x.B.Head.Count,I x.B.Head.Root,I x.B.Head.Prev,ints x.B.Head.Keys.Lst,I x.B.Head.Keys.Need,ints x.B.Head.Heirs.Lst,I x.B.Head.Heirs.Need,I x.B.Head.Wait,ints x.B.Head.Judge.Lst,I x.B.Head.Judge.Need,.bool x.B.Head.Frozen,.list 2 (x.B.Sigs.map xck)]) rfl rfl rfl (wr1 (by omega) (by omega)) (xcE rfl rfl e7 rfl (xcl (by omega) (by omega)) (xaX rfl rfl rfl (wr1 (by omega) (by omega)) (xaX rfl rfl rfl (wr1 (by omega) (by omega)) (xcE rfl rfl e8 rfl (xcl (by omega) (by omega)) (xaX (r1:=[I (k),I (k+1),I (k+1+1),I (k+1+1+1),I (k+1+1+1+1),I (k+1+1+1+1+1),I (k+1+1+1+1+1+1),I (k+1+1+1+1+1+1+1),p1,I (k1),p2,I (k2),I (k2+1),p3,I (k3),.bool ((k3+1).tmod 3==0),p4,I (k4),I (k4+1),I (k4+1+1),I (k4+1+1+1),I (k4+1+1+1+1),I (k4+1+1+1+1+1),I (k4+1+1+1+1+1+1),I (k4+1+1+1+1+1+1+1),p5,I (k5),p6,I (k6),I (k6+1),p7,I (k7),.bool ((k7+1).tmod 3==0),p8,I (k8),I x.B.Head.Epoch,I x.B.Head.Kind,I x.B.Head.Time,I x.B.Head.Until,I x.B.Head.Count,I x.B.Head.Root,I x.B.Head.Prev,ints x.B.Head.Keys.Lst,I x.B.Head.Keys.Need,ints x.B.Head.Heirs.Lst,I x.B.Head.Heirs.Need,I x.B.Head.Wait,ints x.B.Head.Judge.Lst,I x.B.Head.Judge.Need,.bool x.B.Head.Frozen,.list 2 (x.B.Sigs.map xck)]) rfl rfl rfl (wr1 (by omega) (by omega)) (xaX rfl rfl rfl (wr1 (by omega) (by omega)) (xaX rfl rfl rfl (wr1 (by omega) (by omega)) (xaX rfl rfl rfl (wr1 (by omega) (by omega)) (xaX rfl rfl rfl (wr1 (by omega) (by omega)) (xaX (r1:=[I (k),I (k+1),I (k+1+1),I (k+1+1+1),I (k+1+1+1+1),I (k+1+1+1+1+1),I (k+1+1+1+1+1+1),I (k+1+1+1+1+1+1+1),p1,I (k1),p2,I (k2),I (k2+1),p3,I (k3),.bool ((k3+1).tmod 3==0),p4,I (k4),I (k4+1),I (k4+1+1),I (k4+1+1+1),I (k4+1+1+1+1),I (k4+1+1+1+1+1),I (k4+1+1+1+1+1+1),I (k4+1+1+1+1+1+1+1),p5,I (k5),p6,I (k6),I (k6+1),p7,I (k7),.bool ((k7+1).tmod 3==0),p8,I (k8),I (k8+1),I (k8+1+1),I (k8+1+1+1),I (k8+1+1+1+1),I (k8+1+1+1+1+1),I x.B.Head.Root,I x.B.Head.Prev,ints x.B.Head.Keys.Lst,I x.B.Head.Keys.Need,ints x.B.Head.Heirs.Lst,I x.B.Head.Heirs.Need,I x.B.Head.Wait,ints x.B.Head.Judge.Lst,I x.B.Head.Judge.Need,.bool x.B.Head.Frozen,.list 2 (x.B.Sigs.map xck)]) rfl rfl rfl (wr1 (by omega) (by omega)) (xaX rfl rfl rfl (wr1 (by omega) (by omega)) (xaX rfl rfl rfl (wr1 (by omega) (by omega)) (xcE rfl rfl e9 rfl (xcl (by omega) (by omega)) (xaX rfl rfl rfl (wr1 (by omega) (by omega)) (xcE (r1:=[I (k),I (k+1),I (k+1+1),I (k+1+1+1),I (k+1+1+1+1),I (k+1+1+1+1+1),I (k+1+1+1+1+1+1),I (k+1+1+1+1+1+1+1),p1,I (k1),p2,I (k2),I (k2+1),p3,I (k3),.bool ((k3+1).tmod 3==0),p4,I (k4),I (k4+1),I (k4+1+1),I (k4+1+1+1),I (k4+1+1+1+1),I (k4+1+1+1+1+1),I (k4+1+1+1+1+1+1),I (k4+1+1+1+1+1+1+1),p5,I (k5),p6,I (k6),I (k6+1),p7,I (k7),.bool ((k7+1).tmod 3==0),p8,I (k8),I (k8+1),I (k8+1+1),I (k8+1+1+1),I (k8+1+1+1+1),I (k8+1+1+1+1+1),I (k8+1+1+1+1+1+1),I (k8+1+1+1+1+1+1+1),p9,I (k9),p10,I x.B.Head.Heirs.Need,I x.B.Head.Wait,ints x.B.Head.Judge.Lst,I x.B.Head.Judge.Need,.bool x.B.Head.Frozen,.list 2 (x.B.Sigs.map xck)]) rfl rfl e10 rfl (xcl (by omega) (by omega)) (xaX rfl rfl rfl (wr1 (by omega) (by omega)) (xaX rfl rfl rfl (wr1 (by omega) (by omega)) (xcE rfl rfl e11 rfl (xcl (by omega) (by omega)) (xaX rfl rfl rfl (wr1 (by omega) (by omega)) (xaX (r1:=[I (k),I (k+1),I (k+1+1),I (k+1+1+1),I (k+1+1+1+1),I (k+1+1+1+1+1),I (k+1+1+1+1+1+1),I (k+1+1+1+1+1+1+1),p1,I (k1),p2,I (k2),I (k2+1),p3,I (k3),.bool ((k3+1).tmod 3==0),p4,I (k4),I (k4+1),I (k4+1+1),I (k4+1+1+1),I (k4+1+1+1+1),I (k4+1+1+1+1+1),I (k4+1+1+1+1+1+1),I (k4+1+1+1+1+1+1+1),p5,I (k5),p6,I (k6),I (k6+1),p7,I (k7),.bool ((k7+1).tmod 3==0),p8,I (k8),I (k8+1),I (k8+1+1),I (k8+1+1+1),I (k8+1+1+1+1),I (k8+1+1+1+1+1),I (k8+1+1+1+1+1+1),I (k8+1+1+1+1+1+1+1),p9,I (k9),p10,I (k10),I (k10+1),p11,I (k11),.bool ((k11+1).tmod 3==0),.list 2 (x.B.Sigs.map xck)]) rfl rfl rfl (wr1 (by omega) (by omega)) (xcE rfl rfl e12 rfl (xcl (by omega) (by omega)) (rfl))))))))))))))))))))))))))))))))))))))))))))))))))),by omega,by omega,fun rows i K z hr hi hn=>?_⟩
  have f0:=wr1 (k:=k) (by omega) (by omega)
  have f1:=wr1 (k:=k+1) (by omega) (by omega)
  have f2:=wr1 (k:=k+1+1) (by omega) (by omega)
  have f3:=wr1 (k:=k+1+1+1) (by omega) (by omega)
  have f4:=wr1 (k:=k+1+1+1+1) (by omega) (by omega)
  have f5:=wr1 (k:=k+1+1+1+1+1) (by omega) (by omega)
  have f6:=wr1 (k:=k+1+1+1+1+1+1) (by omega) (by omega)
  have f7:=wr1 (k:=k+1+1+1+1+1+1+1) (by omega) (by omega)
  have f9:¬(k1<0):=by omega
  have f10:=wr1 (k:=k1) (by omega) (by omega)
  have f12:¬(k2<0):=by omega
  have f13:=wr1 (k:=k2) (by omega) (by omega)
  have f14:=wr1 (k:=k2+1) (by omega) (by omega)
  have f16:¬(k3<0):=by omega
  have f17:=wr1 (k:=k3) (by omega) (by omega)
  have f18:=wr1 (k:=k3+1) (by omega) (by omega)
  have f20:¬(k4<0):=by omega
  have f21:=wr1 (k:=k4) (by omega) (by omega)
  have f22:=wr1 (k:=k4+1) (by omega) (by omega)
  have f23:=wr1 (k:=k4+1+1) (by omega) (by omega)
  have f24:=wr1 (k:=k4+1+1+1) (by omega) (by omega)
  have f25:=wr1 (k:=k4+1+1+1+1) (by omega) (by omega)
  have f26:=wr1 (k:=k4+1+1+1+1+1) (by omega) (by omega)
  have f27:=wr1 (k:=k4+1+1+1+1+1+1) (by omega) (by omega)
  have f28:=wr1 (k:=k4+1+1+1+1+1+1+1) (by omega) (by omega)
  have f30:¬(k5<0):=by omega
  have f31:=wr1 (k:=k5) (by omega) (by omega)
  have f33:¬(k6<0):=by omega
  have f34:=wr1 (k:=k6) (by omega) (by omega)
  have f35:=wr1 (k:=k6+1) (by omega) (by omega)
  have f37:¬(k7<0):=by omega
  have f38:=wr1 (k:=k7) (by omega) (by omega)
  have f39:=wr1 (k:=k7+1) (by omega) (by omega)
  have f41:¬(k8<0):=by omega
  have f42:=wr1 (k:=k8) (by omega) (by omega)
  have f43:=wr1 (k:=k8+1) (by omega) (by omega)
  have f44:=wr1 (k:=k8+1+1) (by omega) (by omega)
  have f45:=wr1 (k:=k8+1+1+1) (by omega) (by omega)
  have f46:=wr1 (k:=k8+1+1+1+1) (by omega) (by omega)
  have f47:=wr1 (k:=k8+1+1+1+1+1) (by omega) (by omega)
  have f48:=wr1 (k:=k8+1+1+1+1+1+1) (by omega) (by omega)
  have f49:=wr1 (k:=k8+1+1+1+1+1+1+1) (by omega) (by omega)
  have f51:¬(k9<0):=by omega
  have f52:=wr1 (k:=k9) (by omega) (by omega)
  have f54:¬(k10<0):=by omega
  have f55:=wr1 (k:=k10) (by omega) (by omega)
  have f56:=wr1 (k:=k10+1) (by omega) (by omega)
  have f58:¬(k11<0):=by omega
  have f59:=wr1 (k:=k11) (by omega) (by omega)
  have f60:=wr1 (k:=k11+1) (by omega) (by omega)
  have f62:¬(k12<0):=by omega
  have hlt:(i:Int)<(rows.length:Int):=by omega
  simp only [Qhg_r0,heldForkS_a,heldForkS_p0,heldForkS_p1,heldForkS_p2,heldForkS_p3,heldForkS_p4,heldForkS_p5,heldForkS_z,heldForkS_q6,heldForkS_q5,heldForkS_q4,heldForkS_q3,heldForkS_q2,heldForkS_q1,heldForkS_q0,un,cur0,xaG,xan,hlt,decide_true,decide_false,xah,if_true,xdT hr,xaf,xbl,xbM,bne_self_eq_false,Bool.false_eq_true,if_false,xbh,xdW,Bool.not_true,xcP,xaD,xdV,f0,f1,f2,f3,f4,f5,f6,f7,g1,f9,f10,g2,f12,f13,f14,g3,f16,f17,f18,g4,f20,f21,f22,f23,f24,f25,f26,f27,f28,g5,f30,f31,g6,f33,f34,f35,g7,f37,f38,f39,g8,f41,f42,f43,f44,f45,f46,f47,f48,f49,g9,f51,f52,g10,f54,f55,f56,g11,f58,f59,f60,g12,f62,xap (show i<1000000000000000000 by omega),true_and,ne_eq,not_false_eq_true]
  simp
 obtain ⟨rows',k',p1,p2,p3,p4,p5⟩:=xbS xbw (fun x:xcT=>xfr x) 51 l (hrow True fun _ _ _ _=>True) k h0 (by omega)
 have hle:(l.length:Int)≤1000000000000000:=by omega
 refine ⟨.list 51 rows',k',?_,p3,p4,fun K=>?_⟩
 ·exact xd7 (by rw [List.length_map];omega) p1
 ·refine (xaa (fun K=>?_) K)
  obtain ⟨rows2,k2,r1,r2,r3,r4,r5⟩:=xbS xbw (fun x:xcT=>xfr x) 51 l (hrow (rt [.sc] [(I (-1))] K) fun q6 q7 q8 q9=>rt [.sc] [q7] K) k h0 (by omega)
  have hs:=p1.symm.trans r1
  injection hs with hs;injection hs with hs1 hs2
  subst hs1;subst hs2
  have:=r5 [] (I 0) (K [I k']) (by rw [List.nil_append,p2];omega) fun K2=>by
   simp only [Qhg_r0,heldForkS_a,heldForkS_p0,heldForkS_p1,heldForkS_p2,heldForkS_p3,heldForkS_p4,heldForkS_p5,heldForkS_z,heldForkS_q6,heldForkS_q5,heldForkS_q4,heldForkS_q3,heldForkS_q2,heldForkS_q1,heldForkS_q0,un,cur0,xaG,xan,Int.lt_irrefl,decide_false,xah,Bool.false_eq_true,if_false,List.nil_append,xav,xam,xai,xao,true_and]
  exact this
theorem xlO (a:xaJ) (k:Int) (h0:0≤k) (hb:k+40*((xfP a:Nat):Int)≤1000000000000000):∃c_1 c_2 k',mk_Known (xcb a) k=some ([c_1,c_2],k')∧k≤k'∧k'≤k+40*((xfP a:Nat):Int)∧∀K,call Qhh [.agg [c_1,c_2],.one (I k)] K=K [I k']:=by
 simp only [xfP] at hb ⊢
 obtain ⟨p1,k1,e1,l1,u1,g1⟩:=xiC a.Chains (k) (by omega) (by omega)
 obtain ⟨p2,k2,e2,l2,u2,g2⟩:=xlP a.Forks (k1) (by omega) (by omega)
 refine ⟨p1,p2,k2,?_,by omega,by omega,fun K=>xaa (fun K=>?_) K⟩
 ·exact xmK rfl (xcE rfl rfl e1 rfl (xcl (by omega) (by omega)) (xcE rfl rfl e2 rfl (xcl (by omega) (by omega)) (rfl)))
 ·have f1:¬(k1<0):=by omega
  have f2:¬(k2<0):=by omega
  simp only [Qhh,un,cur0,g1,g2,f1,f2,xaf,xan,decide_false,xah,Bool.false_eq_true,if_false,xav,xam,xai,xao,true_and]
theorem xlQ (a:xaS) (k:Int) (h0:0≤k) (hb:k+40*((xax a:Nat):Int)≤1000000000000000):∃c_1 k',mk_Entry (xbg a) k=some ([.str a.Label,I a.Kind,I a.Value,c_1],k')∧k≤k'∧k'≤k+40*((xax a:Nat):Int)∧∀K,call Qkd [.agg [.str a.Label,I a.Kind,I a.Value,c_1],.one (I k)] K=K [I k']:=by
 simp only [xax] at hb ⊢
 obtain ⟨p1,k1,e1,l1,u1,g1⟩:=xcI a.Path (k) (by omega) (by omega)
 refine ⟨p1,k1,?_,by omega,by omega,fun K=>xaa (fun K=>?_) K⟩
 ·exact xmK rfl (xcE rfl rfl e1 rfl (xcl (by omega) (by omega)) (rfl))
 ·have f1:¬(k1<0):=by omega
  simp only [Qkd,un,cur0,g1,f1,xaf,xan,decide_false,xah,Bool.false_eq_true,if_false,xav,xam,xai,xao,true_and]
theorem xlN (a:xjx) (k:Int) (h0:0≤k) (hb:k+40*((xgH a:Nat):Int)≤1000000000000000):∃c_1_1 c_1_2 c_2_1 c_3 k',mk_Trace (xcL a) k=some ([c_1_1,c_1_2,I a.Code,.str a.Entry.Label,I a.Entry.Kind,I a.Entry.Value,c_2_1,c_3,I a.Moves],k')∧k≤k'∧k'≤k+40*((xgH a:Nat):Int)∧∀K,call Qla [.agg [c_1_1,c_1_2,I a.Code,.str a.Entry.Label,I a.Entry.Kind,I a.Entry.Value,c_2_1,c_3,I a.Moves],.one (I k)] K=K [I k']:=by
 simp only [xgH] at hb ⊢
 obtain ⟨p1_1,p1_2,k1,e1,l1,u1,g1⟩:=xlO a.Known (k) (by omega) (by omega)
 obtain ⟨p2_1,k2,e2,l2,u2,g2⟩:=xlQ a.Entry (k1) (by omega) (by omega)
 obtain ⟨p3,k3,e3,l3,u3,g3⟩:=xbi a.Zones (k2) (by omega) (by omega)
 refine ⟨p1_1,p1_2,p2_1,p3,k3,?_,by omega,by omega,fun K=>xaa (fun K=>?_) K⟩
 ·exact xmK rfl (xti (Nat.le_of_ble_eq_true rfl) rfl rfl e1 rfl (xcl (by omega) (by omega)) (xti (Nat.le_of_ble_eq_true rfl) rfl rfl e2 rfl (xcl (by omega) (by omega)) (xcE rfl rfl e3 rfl (xcl (by omega) (by omega)) (rfl))))
 ·have f1:¬(k1<0):=by omega
  have f2:¬(k2<0):=by omega
  have f3:¬(k3<0):=by omega
  simp only [Qla,un,cur0,g1,g2,g3,f1,f2,f3,xaf,xan,decide_false,xah,Bool.false_eq_true,if_false,xav,xam,xai,xao,true_and]
end Go.Ev
