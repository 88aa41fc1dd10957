/- What each function hands back, in plain Lean, and that the laws answer true, part 1. -/
import Derived.Test.YtmhmcamcenidaaaGreatFn5
set_option linter.unusedVariables false
set_option linter.unusedSimpArgs false
set_option maxRecDepth 4000
namespace Go.Ev
open Go.Proofs
theorem szr_add {s t:Nat} {left:Int} (h:(s:Int)≤left):szr (s+t) left=szr t (left-s):=by
 unfold szr
 by_cases h1:(t:Int)≤left-s
 ·rw [if_pos h1,if_pos (by omega)];omega
 ·rw [if_neg h1,if_neg (by omega)]
theorem szr_over {s t:Nat} {left:Int} (h:¬(s:Int)≤left):szr (s+t) left=-1:=by unfold szr;rw [if_neg (by omega)]
theorem szr_not {s:Nat} {left:Int} (h:¬(s:Int)≤left):szr s left=-1:=by unfold szr;rw [if_neg h]
theorem szr_yes {s:Nat} {left:Int} (h:(s:Int)≤left):szr s left=left-s:=by unfold szr;rw [if_pos h]
theorem sumN_mem {α:Type} {s:α→Nat} {x:α}:∀{l:List α},x∈l→s x≤sumN s l
 | y::l,h=>by
  rw [show sumN s (y::l)=s y+sumN s l from rfl]
  rcases List.mem_cons.1 h with rfl | h
  ·omega
  ·have:=sumN_mem (s:=s) h;omega
theorem has_strs {p:PV} (hp:Sh.has (.list [.str]) p):∃l:List ByteArray,p=strs l∧(l.length≤maxLen∧∀y∈l,y.size≤maxLen):=by
 obtain ⟨l,h1,h2,h3⟩:=has_map (enc:=rS) (wf:=fun y=>y.size≤maxLen) (fun r hr=>by
  obtain ⟨p,rfl,h⟩:=all_one hr
  obtain ⟨n,rfl,g⟩:=has_str h
  exact ⟨n,rfl,g⟩) 1 rfl hp
 exact ⟨l,h1,h2,h3⟩
theorem Qaa_n (l:List Int) (left:Int) (hw:l.length≤maxLen) (h2:0≤left) (h3:left≤1048576) (k):call Qaa [.one (ints l),.one (I left)] k=k [I (szr l.length left)]:=call_of (fun k=>by
 simp only [Qaa,lenP_eq,List.length_map,binP_sub,wr_left hw h2 h3,binP_lss,iteP_eq,rt_eq,scs_sc,scs_nil,flat_int,true_and,and_true]
 by_cases c:(l.length:Int)≤left
 ·simp [szr_yes c,show ¬(left-(l.length:Int)<0) by omega]
 ·simp [szr_not c,show left-(l.length:Int)<0 by omega]) k
theorem Qan_n (l:List Int) (h:l.length≤1048576) (k):call Qan [.one (ints l)] k=k [ints l]:=call_of (fun k=>by
 have hm:=h
 simp [Qan,show l.length<1073741824 by omega]
 refine lp_toS l rI rI [I 0] 1 1 (.list 1 []) rfl (fun i x hx hi K rows hr hz=>?_) fun K=>?_
 ·simp [-getElem?_pos,Qan_r0,hx,hi,hr,hz,over,wr_succ (show i<1000000000000000000 by omega)]
 ·simp [Qan_r0]) k
theorem Qgi_n (l:List Int) (h:l.length≤1048576) (k):call Qgi [.one (ints l),.one (ints l)] k=k [.bool true]:=call_of (fun k=>by
 have hm:=h
 simp [Qgi]
 refine lp_eqS l rI 1 (.bool false) rfl (fun i x hx hi K=>?_) fun K=>?_
 ·simp [-getElem?_pos,Qgi_r0,hx,hi,wr_succ (show i<1000000000000000000 by omega)]
 ·simp [Qgi_r0]) k
theorem Qag_n (l:List ByteArray) (left:Int) (hw:(l.length≤maxLen∧∀y∈l,y.size≤maxLen)) (h2:0≤left) (h3:left≤1048576) (k):call Qag [.one (strs l),.one (I left)] k=k [I (szr ((l.length+sumN ByteArray.size l)) left)]:=call_of (fun k=>by
 simp only [Qag,lenP_eq,List.length_map,binP_sub,wr_left hw.1 h2 h3,binP_lss,iteP_eq,rt_eq,scs_sc,scs_nil,flat_int,true_and,and_true]
 by_cases c:(l.length:Int)≤left
 rotate_left
 ·simp [szr_over c,show left-(l.length:Int)<0 by omega]
 simp only [szr_add c,show ¬(left-(l.length:Int)<0) by omega,decide_false,Bool.false_eq_true,if_false]
 refine (lp_sz (neg:=k [I (-1)]) (fin:=fun t=>k [I t]) l rS 1 ByteArray.size (left-(l.length:Int)) (I 0) (by omega) (by omega) rfl (fun i x hx hi t ht1 ht2 K=>?_) fun t K=>?_).trans ?_
 ·have e:=wr_left (left:=t) (hw.2 x (List.mem_of_getElem? hx)) ht1 ht2
  simp [-getElem?_pos,Qag_r0,hx,hi,e,wr_succ (show i<1000000000000000000 by have:=hw.1;omega)]
  by_cases hs:(x.size:Int)≤t
  ·simp [hs,show ¬(t-(x.size:Int)<0) by omega]
  ·simp [hs,show t-(x.size:Int)<0 by omega]
 ·simp [Qag_r0]
 ·by_cases hs:((sumN ByteArray.size l:Nat):Int)≤left-(l.length:Int)
  ·simp [szr_yes hs,hs]
  ·simp [szr_not hs,hs]) k
theorem Qau_n (l:List ByteArray) (h:(l.length+sumN ByteArray.size l)≤1048576) (k):call Qau [.one (strs l)] k=k [strs l]:=call_of (fun k=>by
 have hm:=h
 simp [Qau,show l.length<1073741824 by omega]
 refine lp_toS l rS rS [.str ⟨#[]⟩] 1 1 (.list 1 []) rfl (fun i x hx hi K rows hr hz=>?_) fun K=>?_
 ·simp [-getElem?_pos,Qau_r0,hx,hi,hr,hz,over,wr_succ (show i<1000000000000000000 by omega)]
 ·simp [Qau_r0]) k
theorem Qgp_n (l:List ByteArray) (h:(l.length+sumN ByteArray.size l)≤1048576) (k):call Qgp [.one (strs l),.one (strs l)] k=k [.bool true]:=call_of (fun k=>by
 have hm:=h
 simp [Qgp]
 refine lp_eqS l rS 1 (.bool false) rfl (fun i x hx hi K=>?_) fun K=>?_
 ·simp [-getElem?_pos,Qgp_r0,hx,hi,wr_succ (show i<1000000000000000000 by omega)]
 ·simp [Qgp_r0]) k
structure GKeys where
 Lst:List Int
 Need:Int
abbrev eKeys (a:GKeys):List PV:=[ints a.Lst,I a.Need]
def mKeys (a:GKeys):Nat:=a.Lst.length
def WKeys (a:GKeys):Prop:=a.Lst.length≤maxLen
theorem Qab_n (a:GKeys) (left:Int) (hw:WKeys a) (h2:0≤left) (h3:left≤1048576) (k):call Qab [.agg (eKeys a),.one (I left)] k=k [I (szr (mKeys a) left)]:=call_of (fun k=>by
 have g0:=hw
 unfold mKeys
 simp only [Qab,un,cur0,Qaa_n a.Lst (left) g0 h2 h3,binP_lss,iteP_eq,atP_zero,rt_eq,scs_sc,scs_nil,flat_int,true_and,and_true]
 by_cases c0:((a.Lst.length:Nat):Int)≤left
 rotate_left
 ·first | (simp [szr_not c0,szr_not c0];done) | (simp only [szr_not c0,szr_not c0];simp)
 simp only [szr_yes c0,show ¬(left-((a.Lst.length:Nat):Int)<0) by omega,decide_false,Bool.false_eq_true,if_false,binP_lss,iteP_eq,atP_zero,rt_eq,scs_sc,scs_nil,flat_int,true_and,and_true]) k
theorem Qao_n (a:GKeys) (h:mKeys a≤1048576) (k):call Qao [.agg (eKeys a)] k=k (eKeys a):=call_of (fun k=>by
 unfold mKeys at h
 simp [Qao,Qan_n a.Lst (by omega)]) k
theorem Qgj_n (a:GKeys) (h:mKeys a≤1048576) (k):call Qgj [.agg (eKeys a),.agg (eKeys a)] k=k [.bool true]:=call_of (fun k=>by
 unfold mKeys at h
 simp [Qgj,Qgi_n a.Lst (by omega)]) k
structure GSig where
 Key:Int
 Tag:Int
abbrev eSig (a:GSig):List PV:=[I a.Key,I a.Tag]
theorem decSig (r:List PV) (hr:Sh.hasAll [.int .i64,.int .i64] r):∃a:GSig,r=eSig a∧True:=by
 obtain ⟨p1,r1,rfl,h1,hr1⟩:=all_cons hr
 obtain ⟨n1,rfl⟩:=has_int h1
 obtain ⟨p2,rfl,h2⟩:=all_one hr1
 obtain ⟨n2,rfl⟩:=has_int h2
 exact ⟨⟨n1,n2⟩,rfl,trivial⟩
theorem Qaq_n (a:GSig) (k):call Qaq [.agg (eSig a)] k=k (eSig a):=call_of (fun k=>by
 simp [Qaq]) k
theorem Qgl_n (a:GSig) (k):call Qgl [.agg (eSig a),.agg (eSig a)] k=k [.bool true]:=call_of (fun k=>by
 simp [Qgl]) k
structure GEntry where
 Label:ByteArray
 Kind:Int
 Value:Int
 Path:List ByteArray
abbrev eEntry (a:GEntry):List PV:=[.str a.Label,I a.Kind,I a.Value,strs a.Path]
def mEntry (a:GEntry):Nat:=a.Label.size+((a.Path.length+sumN ByteArray.size a.Path))
def WEntry (a:GEntry):Prop:=a.Label.size≤maxLen∧(a.Path.length≤maxLen∧∀y∈a.Path,y.size≤maxLen)
theorem Qah_n (a:GEntry) (left:Int) (hw:WEntry a) (h2:0≤left) (h3:left≤1048576) (k):call Qah [.agg (eEntry a),.one (I left)] k=k [I (szr (mEntry a) left)]:=call_of (fun k=>by
 obtain ⟨g0,g1⟩:=hw
 unfold mEntry
 simp only [Qah,un,cur0,lenS_eq,binP_sub,wr_left (left:=left) g0 h2 h3,binP_lss,iteP_eq,atP_zero,rt_eq,scs_sc,scs_nil,flat_int,true_and,and_true]
 by_cases c0:((a.Label.size:Nat):Int)≤left
 rotate_left
 ·first | (simp [szr_over c0,show left-((a.Label.size:Nat):Int)<0 by omega];done) | (simp only [szr_over c0,show left-((a.Label.size:Nat):Int)<0 by omega];simp)
 simp only [szr_yes c0,szr_add c0,show ¬(left-((a.Label.size:Nat):Int)<0) by omega,decide_false,Bool.false_eq_true,if_false,Qag_n a.Path (left-((a.Label.size:Nat):Int)) g1 (by omega) (by omega),binP_lss,iteP_eq,atP_zero,rt_eq,scs_sc,scs_nil,flat_int,true_and,and_true]
 by_cases c1:(((a.Path.length+sumN ByteArray.size a.Path):Nat):Int)≤left-((a.Label.size:Nat):Int)
 rotate_left
 ·first | (simp [szr_not c1,szr_not c1];done) | (simp only [szr_not c1,szr_not c1];simp)
 simp only [szr_yes c1,show ¬(left-((a.Label.size:Nat):Int)-(((a.Path.length+sumN ByteArray.size a.Path):Nat):Int)<0) by omega,decide_false,Bool.false_eq_true,if_false,binP_lss,iteP_eq,atP_zero,rt_eq,scs_sc,scs_nil,flat_int,true_and,and_true]) k
theorem Qav_n (a:GEntry) (h:mEntry a≤1048576) (k):call Qav [.agg (eEntry a)] k=k (eEntry a):=call_of (fun k=>by
 unfold mEntry at h
 simp [Qav,Qau_n a.Path (by omega)]) k
theorem Qgq_n (a:GEntry) (h:mEntry a≤1048576) (k):call Qgq [.agg (eEntry a),.agg (eEntry a)] k=k [.bool true]:=call_of (fun k=>by
 unfold mEntry at h
 simp [Qgq,Qgp_n a.Path (by omega)]) k
structure GProof where
 At:Int
 Path:List Int
abbrev eProof (a:GProof):List PV:=[I a.At,ints a.Path]
def mProof (a:GProof):Nat:=a.Path.length
def WProof (a:GProof):Prop:=a.Path.length≤maxLen
theorem Qai_n (a:GProof) (left:Int) (hw:WProof a) (h2:0≤left) (h3:left≤1048576) (k):call Qai [.agg (eProof a),.one (I left)] k=k [I (szr (mProof a) left)]:=call_of (fun k=>by
 have g0:=hw
 unfold mProof
 simp only [Qai,un,cur0,Qaa_n a.Path (left) g0 h2 h3,binP_lss,iteP_eq,atP_zero,rt_eq,scs_sc,scs_nil,flat_int,true_and,and_true]
 by_cases c0:((a.Path.length:Nat):Int)≤left
 rotate_left
 ·first | (simp [szr_not c0,szr_not c0];done) | (simp only [szr_not c0,szr_not c0];simp)
 simp only [szr_yes c0,show ¬(left-((a.Path.length:Nat):Int)<0) by omega,decide_false,Bool.false_eq_true,if_false,binP_lss,iteP_eq,atP_zero,rt_eq,scs_sc,scs_nil,flat_int,true_and,and_true]) k
theorem Qaw_n (a:GProof) (h:mProof a≤1048576) (k):call Qaw [.agg (eProof a)] k=k (eProof a):=call_of (fun k=>by
 unfold mProof at h
 simp [Qaw,Qan_n a.Path (by omega)]) k
theorem Qgr_n (a:GProof) (h:mProof a≤1048576) (k):call Qgr [.agg (eProof a),.agg (eProof a)] k=k [.bool true]:=call_of (fun k=>by
 unfold mProof at h
 simp [Qgr,Qgi_n a.Path (by omega)]) k
structure GGap where
 At:Int
 Before:GEntry
 After:GEntry
 Left:GProof
 Right:GProof
abbrev eGap (a:GGap):List PV:=[I a.At,.str a.Before.Label,I a.Before.Kind,I a.Before.Value,strs a.Before.Path,.str a.After.Label,I a.After.Kind,I a.After.Value,strs a.After.Path,I a.Left.At,ints a.Left.Path,I a.Right.At,ints a.Right.Path]
def mGap (a:GGap):Nat:=mEntry a.Before+(mEntry a.After+(mProof a.Left+(mProof a.Right)))
def WGap (a:GGap):Prop:=WEntry a.Before∧WEntry a.After∧WProof a.Left∧WProof a.Right
theorem Qaj_n (a:GGap) (left:Int) (hw:WGap a) (h2:0≤left) (h3:left≤1048576) (k):call Qaj [.agg (eGap a),.one (I left)] k=k [I (szr (mGap a) left)]:=call_of (fun k=>by
 obtain ⟨g0,g1,g2,g3⟩:=hw
 unfold mGap
 simp only [Qaj,un,cur0,Qah_n a.Before (left) g0 h2 h3,binP_lss,iteP_eq,atP_zero,rt_eq,scs_sc,scs_nil,flat_int,true_and,and_true]
 by_cases c0:((mEntry a.Before:Nat):Int)≤left
 rotate_left
 ·first | (simp [szr_over c0,szr_not c0];done) | (simp only [szr_over c0,szr_not c0];simp)
 simp only [szr_yes c0,szr_add c0,show ¬(left-((mEntry a.Before:Nat):Int)<0) by omega,decide_false,Bool.false_eq_true,if_false,Qah_n a.After (left-((mEntry a.Before:Nat):Int)) g1 (by omega) (by omega),binP_lss,iteP_eq,atP_zero,rt_eq,scs_sc,scs_nil,flat_int,true_and,and_true]
 by_cases c1:((mEntry a.After:Nat):Int)≤left-((mEntry a.Before:Nat):Int)
 rotate_left
 ·first | (simp [szr_over c1,szr_not c1];done) | (simp only [szr_over c1,szr_not c1];simp)
 simp only [szr_yes c1,szr_add c1,show ¬(left-((mEntry a.Before:Nat):Int)-((mEntry a.After:Nat):Int)<0) by omega,decide_false,Bool.false_eq_true,if_false,Qai_n a.Left (left-((mEntry a.Before:Nat):Int)-((mEntry a.After:Nat):Int)) g2 (by omega) (by omega),binP_lss,iteP_eq,atP_zero,rt_eq,scs_sc,scs_nil,flat_int,true_and,and_true]
 by_cases c2:((mProof a.Left:Nat):Int)≤left-((mEntry a.Before:Nat):Int)-((mEntry a.After:Nat):Int)
 rotate_left
 ·first | (simp [szr_over c2,szr_not c2];done) | (simp only [szr_over c2,szr_not c2];simp)
 simp only [szr_yes c2,szr_add c2,show ¬(left-((mEntry a.Before:Nat):Int)-((mEntry a.After:Nat):Int)-((mProof a.Left:Nat):Int)<0) by omega,decide_false,Bool.false_eq_true,if_false,Qai_n a.Right (left-((mEntry a.Before:Nat):Int)-((mEntry a.After:Nat):Int)-((mProof a.Left:Nat):Int)) g3 (by omega) (by omega),binP_lss,iteP_eq,atP_zero,rt_eq,scs_sc,scs_nil,flat_int,true_and,and_true]
 by_cases c3:((mProof a.Right:Nat):Int)≤left-((mEntry a.Before:Nat):Int)-((mEntry a.After:Nat):Int)-((mProof a.Left:Nat):Int)
 rotate_left
 ·first | (simp [szr_not c3,szr_not c3];done) | (simp only [szr_not c3,szr_not c3];simp)
 simp only [szr_yes c3,show ¬(left-((mEntry a.Before:Nat):Int)-((mEntry a.After:Nat):Int)-((mProof a.Left:Nat):Int)-((mProof a.Right:Nat):Int)<0) by omega,decide_false,Bool.false_eq_true,if_false,binP_lss,iteP_eq,atP_zero,rt_eq,scs_sc,scs_nil,flat_int,true_and,and_true]) k
theorem Qax_n (a:GGap) (h:mGap a≤1048576) (k):call Qax [.agg (eGap a)] k=k (eGap a):=call_of (fun k=>by
 unfold mGap at h
 simp [Qax,Qav_n a.Before (by omega),Qav_n a.After (by omega),Qaw_n a.Left (by omega),Qaw_n a.Right (by omega)]) k
theorem Qgs_n (a:GGap) (h:mGap a≤1048576) (k):call Qgs [.agg (eGap a),.agg (eGap a)] k=k [.bool true]:=call_of (fun k=>by
 unfold mGap at h
 simp [Qgs,Qgq_n a.Before (by omega),Qgq_n a.After (by omega),Qgr_n a.Left (by omega),Qgr_n a.Right (by omega)]) k
structure GHead where
 Zone:Int
 Epoch:Int
 Kind:Int
 Time:Int
 Until:Int
 Count:Int
 Root:Int
 Prev:Int
 Keys:GKeys
 Heirs:GKeys
 Wait:Int
 Judge:GKeys
 Frozen:Bool
abbrev eHead (a:GHead):List PV:=[I a.Zone,I a.Epoch,I a.Kind,I a.Time,I a.Until,I a.Count,I a.Root,I a.Prev,ints a.Keys.Lst,I a.Keys.Need,ints a.Heirs.Lst,I a.Heirs.Need,I a.Wait,ints a.Judge.Lst,I a.Judge.Need,.bool a.Frozen]
def mHead (a:GHead):Nat:=mKeys a.Keys+(mKeys a.Heirs+(mKeys a.Judge))
def WHead (a:GHead):Prop:=WKeys a.Keys∧WKeys a.Heirs∧WKeys a.Judge
theorem Qac_n (a:GHead) (left:Int) (hw:WHead a) (h2:0≤left) (h3:left≤1048576) (k):call Qac [.agg (eHead a),.one (I left)] k=k [I (szr (mHead a) left)]:=call_of (fun k=>by
 obtain ⟨g0,g1,g2⟩:=hw
 unfold mHead
 simp only [Qac,un,cur0,Qab_n a.Keys (left) g0 h2 h3,binP_lss,iteP_eq,atP_zero,rt_eq,scs_sc,scs_nil,flat_int,true_and,and_true]
 by_cases c0:((mKeys a.Keys:Nat):Int)≤left
 rotate_left
 ·first | (simp [szr_over c0,szr_not c0];done) | (simp only [szr_over c0,szr_not c0];simp)
 simp only [szr_yes c0,szr_add c0,show ¬(left-((mKeys a.Keys:Nat):Int)<0) by omega,decide_false,Bool.false_eq_true,if_false,Qab_n a.Heirs (left-((mKeys a.Keys:Nat):Int)) g1 (by omega) (by omega),binP_lss,iteP_eq,atP_zero,rt_eq,scs_sc,scs_nil,flat_int,true_and,and_true]
 by_cases c1:((mKeys a.Heirs:Nat):Int)≤left-((mKeys a.Keys:Nat):Int)
 rotate_left
 ·first | (simp [szr_over c1,szr_not c1];done) | (simp only [szr_over c1,szr_not c1];simp)
 simp only [szr_yes c1,szr_add c1,show ¬(left-((mKeys a.Keys:Nat):Int)-((mKeys a.Heirs:Nat):Int)<0) by omega,decide_false,Bool.false_eq_true,if_false,Qab_n a.Judge (left-((mKeys a.Keys:Nat):Int)-((mKeys a.Heirs:Nat):Int)) g2 (by omega) (by omega),binP_lss,iteP_eq,atP_zero,rt_eq,scs_sc,scs_nil,flat_int,true_and,and_true]
 by_cases c2:((mKeys a.Judge:Nat):Int)≤left-((mKeys a.Keys:Nat):Int)-((mKeys a.Heirs:Nat):Int)
 rotate_left
 ·first | (simp [szr_not c2,szr_not c2];done) | (simp only [szr_not c2,szr_not c2];simp)
 simp only [szr_yes c2,show ¬(left-((mKeys a.Keys:Nat):Int)-((mKeys a.Heirs:Nat):Int)-((mKeys a.Judge:Nat):Int)<0) by omega,decide_false,Bool.false_eq_true,if_false,binP_lss,iteP_eq,atP_zero,rt_eq,scs_sc,scs_nil,flat_int,true_and,and_true]) k
theorem Qap_n (a:GHead) (h:mHead a≤1048576) (k):call Qap [.agg (eHead a)] k=k (eHead a):=call_of (fun k=>by
 unfold mHead at h
 simp [Qap,Qao_n a.Keys (by omega),Qao_n a.Heirs (by omega),Qao_n a.Judge (by omega)]) k
theorem Qgk_n (a:GHead) (h:mHead a≤1048576) (k):call Qgk [.agg (eHead a),.agg (eHead a)] k=k [.bool true]:=call_of (fun k=>by
 unfold mHead at h
 simp [Qgk,Qgj_n a.Keys (by omega),Qgj_n a.Heirs (by omega),Qgj_n a.Judge (by omega)]) k
theorem decSigS {p:PV} (h:Sh.has (.list [.int .i64,.int .i64]) p):∃l:List GSig,p=.list 2 (l.map eSig)∧l.length≤maxLen:=by
 obtain ⟨l,h1,h2,h3⟩:=has_map decSig 2 rfl h
 exact ⟨l,h1,h2⟩
theorem Qad_n (l:List GSig) (left:Int) (hw:l.length≤maxLen) (h2:0≤left) (h3:left≤1048576) (k):call Qad [.one (.list 2 (l.map eSig)),.one (I left)] k=k [I (szr l.length left)]:=call_of (fun k=>by
 simp only [Qad,lenP_eq,List.length_map,binP_sub,wr_left hw h2 h3,binP_lss,iteP_eq,rt_eq,scs_sc,scs_nil,flat_int,true_and,and_true]
 by_cases c:(l.length:Int)≤left
 ·simp [szr_yes c,show ¬(left-(l.length:Int)<0) by omega]
 ·simp [szr_not c,show left-(l.length:Int)<0 by omega]) k
theorem Qar_n (l:List GSig) (h:l.length≤1048576) (k):call Qar [.one (.list 2 (l.map eSig))] k=k [.list 2 (l.map eSig)]:=call_of (fun k=>by
 have hm:=h
 simp [Qar,show l.length<1073741824 by omega]
 refine lp_toS l eSig eSig [I 0,I 0] 2 2 (.list 2 []) rfl (fun i x hx hi K rows hr hz=>?_) fun K=>?_
 ·simp [-getElem?_pos,Qar_r0,hx,hi,hr,hz,over,Qaq_n x,wr_succ (show i<1000000000000000000 by omega)]
 ·simp [Qar_r0]) k
theorem Qgm_n (l:List GSig) (h:l.length≤1048576) (k):call Qgm [.one (.list 2 (l.map eSig)),.one (.list 2 (l.map eSig))] k=k [.bool true]:=call_of (fun k=>by
 have hm:=h
 simp [Qgm]
 refine lp_eqS l eSig 2 (.bool false) rfl (fun i x hx hi K=>?_) fun K=>?_
 ·simp [-getElem?_pos,Qgm_r0,hx,hi,Qgl_n x,wr_succ (show i<1000000000000000000 by omega)]
 ·simp [Qgm_r0]) k
structure GSigned where
 Head:GHead
 Sigs:List GSig
abbrev eSigned (a:GSigned):List PV:=[I a.Head.Zone,I a.Head.Epoch,I a.Head.Kind,I a.Head.Time,I a.Head.Until,I a.Head.Count,I a.Head.Root,I a.Head.Prev,ints a.Head.Keys.Lst,I a.Head.Keys.Need,ints a.Head.Heirs.Lst,I a.Head.Heirs.Need,I a.Head.Wait,ints a.Head.Judge.Lst,I a.Head.Judge.Need,.bool a.Head.Frozen,.list 2 (a.Sigs.map eSig)]
def mSigned (a:GSigned):Nat:=mHead a.Head+(a.Sigs.length)
def WSigned (a:GSigned):Prop:=WHead a.Head∧a.Sigs.length≤maxLen
theorem decSigned (r:List PV) (hr:Sh.hasAll [.int .i64,.int .i64,.int .i64,.int .i64,.int .i64,.int .i64,.int .i64,.int .i64,.list [.int .i64],.int .i64,.list [.int .i64],.int .i64,.int .i64,.list [.int .i64],.int .i64,.bool,.list [.int .i64,.int .i64]] r):∃a:GSigned,r=eSigned a∧WSigned a:=by
 obtain ⟨p1,r1,rfl,h1,hr1⟩:=all_cons hr
 obtain ⟨n1,rfl⟩:=has_int h1
 obtain ⟨p2,r2,rfl,h2,hr2⟩:=all_cons hr1
 obtain ⟨n2,rfl⟩:=has_int h2
 obtain ⟨p3,r3,rfl,h3,hr3⟩:=all_cons hr2
 obtain ⟨n3,rfl⟩:=has_int h3
 obtain ⟨p4,r4,rfl,h4,hr4⟩:=all_cons hr3
 obtain ⟨n4,rfl⟩:=has_int h4
 obtain ⟨p5,r5,rfl,h5,hr5⟩:=all_cons hr4
 obtain ⟨n5,rfl⟩:=has_int h5
 obtain ⟨p6,r6,rfl,h6,hr6⟩:=all_cons hr5
 obtain ⟨n6,rfl⟩:=has_int h6
 obtain ⟨p7,r7,rfl,h7,hr7⟩:=all_cons hr6
 obtain ⟨n7,rfl⟩:=has_int h7
 obtain ⟨p8,r8,rfl,h8,hr8⟩:=all_cons hr7
 obtain ⟨n8,rfl⟩:=has_int h8
 obtain ⟨p9,r9,rfl,h9,hr9⟩:=all_cons hr8
 obtain ⟨n9,rfl,g9⟩:=has_ints h9
 obtain ⟨p10,r10,rfl,h10,hr10⟩:=all_cons hr9
 obtain ⟨n10,rfl⟩:=has_int h10
 obtain ⟨p11,r11,rfl,h11,hr11⟩:=all_cons hr10
 obtain ⟨n11,rfl,g11⟩:=has_ints h11
 obtain ⟨p12,r12,rfl,h12,hr12⟩:=all_cons hr11
 obtain ⟨n12,rfl⟩:=has_int h12
 obtain ⟨p13,r13,rfl,h13,hr13⟩:=all_cons hr12
 obtain ⟨n13,rfl⟩:=has_int h13
 obtain ⟨p14,r14,rfl,h14,hr14⟩:=all_cons hr13
 obtain ⟨n14,rfl,g14⟩:=has_ints h14
 obtain ⟨p15,r15,rfl,h15,hr15⟩:=all_cons hr14
 obtain ⟨n15,rfl⟩:=has_int h15
 obtain ⟨p16,r16,rfl,h16,hr16⟩:=all_cons hr15
 obtain ⟨n16,rfl⟩:=has_bool h16
 obtain ⟨p17,rfl,h17⟩:=all_one hr16
 obtain ⟨n17,rfl,g17⟩:=decSigS h17
 exact ⟨⟨⟨n1,n2,n3,n4,n5,n6,n7,n8,⟨n9,n10⟩,⟨n11,n12⟩,n13,⟨n14,n15⟩,n16⟩,n17⟩,rfl,⟨⟨g9,g11,g14⟩,g17⟩⟩
theorem Qae_n (a:GSigned) (left:Int) (hw:WSigned a) (h2:0≤left) (h3:left≤1048576) (k):call Qae [.agg (eSigned a),.one (I left)] k=k [I (szr (mSigned a) left)]:=call_of (fun k=>by
 obtain ⟨g0,g1⟩:=hw
 unfold mSigned
 simp only [Qae,un,cur0,Qac_n a.Head (left) g0 h2 h3,binP_lss,iteP_eq,atP_zero,rt_eq,scs_sc,scs_nil,flat_int,true_and,and_true]
 by_cases c0:((mHead a.Head:Nat):Int)≤left
 rotate_left
 ·first | (simp [szr_over c0,szr_not c0];done) | (simp only [szr_over c0,szr_not c0];simp)
 simp only [szr_yes c0,szr_add c0,show ¬(left-((mHead a.Head:Nat):Int)<0) by omega,decide_false,Bool.false_eq_true,if_false,Qad_n a.Sigs (left-((mHead a.Head:Nat):Int)) g1 (by omega) (by omega),binP_lss,iteP_eq,atP_zero,rt_eq,scs_sc,scs_nil,flat_int,true_and,and_true]
 by_cases c1:((a.Sigs.length:Nat):Int)≤left-((mHead a.Head:Nat):Int)
 rotate_left
 ·first | (simp [szr_not c1,szr_not c1];done) | (simp only [szr_not c1,szr_not c1];simp)
 simp only [szr_yes c1,show ¬(left-((mHead a.Head:Nat):Int)-((a.Sigs.length:Nat):Int)<0) by omega,decide_false,Bool.false_eq_true,if_false,binP_lss,iteP_eq,atP_zero,rt_eq,scs_sc,scs_nil,flat_int,true_and,and_true]) k
theorem Qas_n (a:GSigned) (h:mSigned a≤1048576) (k):call Qas [.agg (eSigned a)] k=k (eSigned a):=call_of (fun k=>by
 unfold mSigned at h
 simp [Qas,Qap_n a.Head (by omega),Qar_n a.Sigs (by omega)]) k
theorem Qgn_n (a:GSigned) (h:mSigned a≤1048576) (k):call Qgn [.agg (eSigned a),.agg (eSigned a)] k=k [.bool true]:=call_of (fun k=>by
 unfold mSigned at h
 simp [Qgn,Qgk_n a.Head (by omega),Qgm_n a.Sigs (by omega)]) k
structure GFork where
 Before:GSigned
 A:GSigned
 B:GSigned
abbrev eFork (a:GFork):List PV:=[I a.Before.Head.Zone,I a.Before.Head.Epoch,I a.Before.Head.Kind,I a.Before.Head.Time,I a.Before.Head.Until,I a.Before.Head.Count,I a.Before.Head.Root,I a.Before.Head.Prev,ints a.Before.Head.Keys.Lst,I a.Before.Head.Keys.Need,ints a.Before.Head.Heirs.Lst,I a.Before.Head.Heirs.Need,I a.Before.Head.Wait,ints a.Before.Head.Judge.Lst,I a.Before.Head.Judge.Need,.bool a.Before.Head.Frozen,.list 2 (a.Before.Sigs.map eSig),I a.A.Head.Zone,I a.A.Head.Epoch,I a.A.Head.Kind,I a.A.Head.Time,I a.A.Head.Until,I a.A.Head.Count,I a.A.Head.Root,I a.A.Head.Prev,ints a.A.Head.Keys.Lst,I a.A.Head.Keys.Need,ints a.A.Head.Heirs.Lst,I a.A.Head.Heirs.Need,I a.A.Head.Wait,ints a.A.Head.Judge.Lst,I a.A.Head.Judge.Need,.bool a.A.Head.Frozen,.list 2 (a.A.Sigs.map eSig),I a.B.Head.Zone,I a.B.Head.Epoch,I a.B.Head.Kind,I a.B.Head.Time,I a.B.Head.Until,I a.B.Head.Count,I a.B.Head.Root,I a.B.Head.Prev,ints a.B.Head.Keys.Lst,I a.B.Head.Keys.Need,ints a.B.Head.Heirs.Lst,I a.B.Head.Heirs.Need,I a.B.Head.Wait,ints a.B.Head.Judge.Lst,I a.B.Head.Judge.Need,.bool a.B.Head.Frozen,.list 2 (a.B.Sigs.map eSig)]
def mSignedS (l:List GSigned):Nat:=l.length+sumN mSigned l
theorem decSignedS {p:PV} (h:Sh.has (.list [.int .i64,.int .i64,.int .i64,.int .i64,.int .i64,.int .i64,.int .i64,.int .i64,.list [.int .i64],.int .i64,.list [.int .i64],.int .i64,.int .i64,.list [.int .i64],.int .i64,.bool,.list [.int .i64,.int .i64]]) p):∃l:List GSigned,p=.list 17 (l.map eSigned)∧(l.length≤maxLen∧∀y∈l,WSigned y):=by
 obtain ⟨l,h1,h2,h3⟩:=has_map decSigned 17 rfl h
 exact ⟨l,h1,h2,h3⟩
theorem Qaf_n (l:List GSigned) (left:Int) (hw:(l.length≤maxLen∧∀y∈l,WSigned y)) (h2:0≤left) (h3:left≤1048576) (k):call Qaf [.one (.list 17 (l.map eSigned)),.one (I left)] k=k [I (szr (mSignedS l) left)]:=call_of (fun k=>by
 simp only [Qaf,lenP_eq,List.length_map,binP_sub,wr_left hw.1 h2 h3,binP_lss,iteP_eq,rt_eq,scs_sc,scs_nil,flat_int,true_and,and_true]
 unfold mSignedS
 by_cases c:(l.length:Int)≤left
 rotate_left
 ·simp [szr_over c,show left-(l.length:Int)<0 by omega]
 simp only [szr_add c,show ¬(left-(l.length:Int)<0) by omega,decide_false,Bool.false_eq_true,if_false]
 refine (lp_sz (neg:=k [I (-1)]) (fin:=fun t=>k [I t]) l eSigned 17 mSigned (left-(l.length:Int)) (I 0) (by omega) (by omega) rfl (fun i x hx hi t ht1 ht2 K=>?_) fun t K=>?_).trans ?_
 ·have e:=Qae_n x t (hw.2 x (List.mem_of_getElem? hx)) ht1 ht2
  simp [-getElem?_pos,Qaf_r0,hx,hi,e,wr_succ (show i<1000000000000000000 by omega)]
  by_cases hs:((mSigned x:Nat):Int)≤t
  ·simp [szr_yes hs,hs,show ¬(t-((mSigned x:Nat):Int)<0) by omega]
  ·simp [szr_not hs,hs]
 ·simp [Qaf_r0]
 ·by_cases hs:((sumN mSigned l:Nat):Int)≤left-(l.length:Int)
  ·simp [szr_yes hs,hs]
  ·simp [szr_not hs,hs]) k
theorem Qat_n (l:List GSigned) (h:mSignedS l≤1048576) (k):call Qat [.one (.list 17 (l.map eSigned))] k=k [.list 17 (l.map eSigned)]:=call_of (fun k=>by
 have hm:=h
 unfold mSignedS at hm
 simp [Qat,show l.length<1073741824 by omega]
 refine lp_toS l eSigned eSigned [I 0,I 0,I 0,I 0,I 0,I 0,I 0,I 0,.list 1 [],I 0,.list 1 [],I 0,I 0,.list 1 [],I 0,.bool false,.list 2 []] 17 17 (.list 17 []) rfl (fun i x hx hi K rows hr hz=>?_) fun K=>?_
 ·have hs:mSigned x≤sumN mSigned l:=sumN_mem (s:=mSigned) (List.mem_of_getElem? hx)
  simp [-getElem?_pos,Qat_r0,hx,hi,hr,hz,over,Qas_n x (by omega),wr_succ (show i<1000000000000000000 by omega)]
 ·simp [Qat_r0]) k
theorem Qgo_n (l:List GSigned) (h:mSignedS l≤1048576) (k):call Qgo [.one (.list 17 (l.map eSigned)),.one (.list 17 (l.map eSigned))] k=k [.bool true]:=call_of (fun k=>by
 have hm:=h
 unfold mSignedS at hm
 simp [Qgo]
 refine lp_eqS l eSigned 17 (.bool false) rfl (fun i x hx hi K=>?_) fun K=>?_
 ·have hs:mSigned x≤sumN mSigned l:=sumN_mem (s:=mSigned) (List.mem_of_getElem? hx)
  simp [-getElem?_pos,Qgo_r0,hx,hi,Qgn_n x (by omega),wr_succ (show i<1000000000000000000 by omega)]
 ·simp [Qgo_r0]) k
def mEntryS (l:List GEntry):Nat:=l.length+sumN mEntry l
structure GZone where
 Chain:List GSigned
 Entries:List GEntry
structure GAnswer where
 Chain:List GSigned
 Found:Bool
 Entry:GEntry
 Proof:GProof
 Gap:GGap
abbrev eAnswer (a:GAnswer):List PV:=[.list 17 (a.Chain.map eSigned),.bool a.Found,.str a.Entry.Label,I a.Entry.Kind,I a.Entry.Value,strs a.Entry.Path,I a.Proof.At,ints a.Proof.Path,I a.Gap.At,.str a.Gap.Before.Label,I a.Gap.Before.Kind,I a.Gap.Before.Value,strs a.Gap.Before.Path,.str a.Gap.After.Label,I a.Gap.After.Kind,I a.Gap.After.Value,strs a.Gap.After.Path,I a.Gap.Left.At,ints a.Gap.Left.Path,I a.Gap.Right.At,ints a.Gap.Right.Path]
def mAnswer (a:GAnswer):Nat:=mSignedS a.Chain+(mEntry a.Entry+(mProof a.Proof+(mGap a.Gap)))
def WAnswer (a:GAnswer):Prop:=(a.Chain.length≤maxLen∧∀y∈a.Chain,WSigned y)∧WEntry a.Entry∧WProof a.Proof∧WGap a.Gap
theorem Qak_n (a:GAnswer) (left:Int) (hw:WAnswer a) (h2:0≤left) (h3:left≤1048576) (k):call Qak [.agg (eAnswer a),.one (I left)] k=k [I (szr (mAnswer a) left)]:=call_of (fun k=>by
 obtain ⟨g0,g1,g2,g3⟩:=hw
 unfold mAnswer
 simp only [Qak,un,cur0,Qaf_n a.Chain (left) g0 h2 h3,binP_lss,iteP_eq,atP_zero,rt_eq,scs_sc,scs_nil,flat_int,true_and,and_true]
 by_cases c0:((mSignedS a.Chain:Nat):Int)≤left
 rotate_left
 ·first | (simp [szr_over c0,szr_not c0];done) | (simp only [szr_over c0,szr_not c0];simp)
 simp only [szr_yes c0,szr_add c0,show ¬(left-((mSignedS a.Chain:Nat):Int)<0) by omega,decide_false,Bool.false_eq_true,if_false,Qah_n a.Entry (left-((mSignedS a.Chain:Nat):Int)) g1 (by omega) (by omega),binP_lss,iteP_eq,atP_zero,rt_eq,scs_sc,scs_nil,flat_int,true_and,and_true]
 by_cases c1:((mEntry a.Entry:Nat):Int)≤left-((mSignedS a.Chain:Nat):Int)
 rotate_left
 ·first | (simp [szr_over c1,szr_not c1];done) | (simp only [szr_over c1,szr_not c1];simp)
 simp only [szr_yes c1,szr_add c1,show ¬(left-((mSignedS a.Chain:Nat):Int)-((mEntry a.Entry:Nat):Int)<0) by omega,decide_false,Bool.false_eq_true,if_false,Qai_n a.Proof (left-((mSignedS a.Chain:Nat):Int)-((mEntry a.Entry:Nat):Int)) g2 (by omega) (by omega),binP_lss,iteP_eq,atP_zero,rt_eq,scs_sc,scs_nil,flat_int,true_and,and_true]
 by_cases c2:((mProof a.Proof:Nat):Int)≤left-((mSignedS a.Chain:Nat):Int)-((mEntry a.Entry:Nat):Int)
 rotate_left
 ·first | (simp [szr_over c2,szr_not c2];done) | (simp only [szr_over c2,szr_not c2];simp)
 simp only [szr_yes c2,szr_add c2,show ¬(left-((mSignedS a.Chain:Nat):Int)-((mEntry a.Entry:Nat):Int)-((mProof a.Proof:Nat):Int)<0) by omega,decide_false,Bool.false_eq_true,if_false,Qaj_n a.Gap (left-((mSignedS a.Chain:Nat):Int)-((mEntry a.Entry:Nat):Int)-((mProof a.Proof:Nat):Int)) g3 (by omega) (by omega),binP_lss,iteP_eq,atP_zero,rt_eq,scs_sc,scs_nil,flat_int,true_and,and_true]
 by_cases c3:((mGap a.Gap:Nat):Int)≤left-((mSignedS a.Chain:Nat):Int)-((mEntry a.Entry:Nat):Int)-((mProof a.Proof:Nat):Int)
 rotate_left
 ·first | (simp [szr_not c3,szr_not c3];done) | (simp only [szr_not c3,szr_not c3];simp)
 simp only [szr_yes c3,show ¬(left-((mSignedS a.Chain:Nat):Int)-((mEntry a.Entry:Nat):Int)-((mProof a.Proof:Nat):Int)-((mGap a.Gap:Nat):Int)<0) by omega,decide_false,Bool.false_eq_true,if_false,binP_lss,iteP_eq,atP_zero,rt_eq,scs_sc,scs_nil,flat_int,true_and,and_true]) k
theorem Qay_n (a:GAnswer) (h:mAnswer a≤1048576) (k):call Qay [.agg (eAnswer a)] k=k (eAnswer a):=call_of (fun k=>by
 unfold mAnswer at h
 simp [Qay,Qat_n a.Chain (by omega),Qav_n a.Entry (by omega),Qaw_n a.Proof (by omega),Qax_n a.Gap (by omega)]) k
theorem Qgt_n (a:GAnswer) (h:mAnswer a≤1048576) (k):call Qgt [.agg (eAnswer a),.agg (eAnswer a)] k=k [.bool true]:=call_of (fun k=>by
 unfold mAnswer at h
 simp [Qgt,Qgo_n a.Chain (by omega),Qgq_n a.Entry (by omega),Qgr_n a.Proof (by omega),Qgs_n a.Gap (by omega)]) k
structure GKnown where
 Chains:List (List GSigned)
 Forks:List GFork
abbrev eKnown (a:GKnown):List PV:=[.list 1 (a.Chains.map (fun l:List GSigned=>[.list 17 (l.map eSigned)])),.list 51 (a.Forks.map eFork)]
structure GServer where
 Zones:List GZone
 Lie:Int
structure GLook where
 Known:GKnown
 Found:Bool
 Entry:GEntry
 Done:Bool
 Codes:List Int
abbrev eLook (a:GLook):List PV:=[.list 1 (a.Known.Chains.map (fun l:List GSigned=>[.list 17 (l.map eSigned)])),.list 51 (a.Known.Forks.map eFork),.bool a.Found,.str a.Entry.Label,I a.Entry.Kind,I a.Entry.Value,strs a.Entry.Path,.bool a.Done,ints a.Codes]
structure GTrace where
 Known:GKnown
 Code:Int
 Entry:GEntry
 Zones:List Int
 Moves:Int
abbrev eTrace (a:GTrace):List PV:=[.list 1 (a.Known.Chains.map (fun l:List GSigned=>[.list 17 (l.map eSigned)])),.list 51 (a.Known.Forks.map eFork),I a.Code,.str a.Entry.Label,I a.Entry.Kind,I a.Entry.Value,strs a.Entry.Path,ints a.Zones,I a.Moves]
structure GStored where
 Zone:Int
 Label:ByteArray
 Answer:GAnswer
abbrev eStored (a:GStored):List PV:=[I a.Zone,.str a.Label,.list 17 (a.Answer.Chain.map eSigned),.bool a.Answer.Found,.str a.Answer.Entry.Label,I a.Answer.Entry.Kind,I a.Answer.Entry.Value,strs a.Answer.Entry.Path,I a.Answer.Proof.At,ints a.Answer.Proof.Path,I a.Answer.Gap.At,.str a.Answer.Gap.Before.Label,I a.Answer.Gap.Before.Kind,I a.Answer.Gap.Before.Value,strs a.Answer.Gap.Before.Path,.str a.Answer.Gap.After.Label,I a.Answer.Gap.After.Kind,I a.Answer.Gap.After.Value,strs a.Answer.Gap.After.Path,I a.Answer.Gap.Left.At,ints a.Answer.Gap.Left.Path,I a.Answer.Gap.Right.At,ints a.Answer.Gap.Right.Path]
def mStored (a:GStored):Nat:=a.Label.size+(mAnswer a.Answer)
def WStored (a:GStored):Prop:=a.Label.size≤maxLen∧WAnswer a.Answer
theorem decStored (r:List PV) (hr:Sh.hasAll [.int .i64,.str,.list [.int .i64,.int .i64,.int .i64,.int .i64,.int .i64,.int .i64,.int .i64,.int .i64,.list [.int .i64],.int .i64,.list [.int .i64],.int .i64,.int .i64,.list [.int .i64],.int .i64,.bool,.list [.int .i64,.int .i64]],.bool,.str,.int .i64,.int .i64,.list [.str],.int .i64,.list [.int .i64],.int .i64,.str,.int .i64,.int .i64,.list [.str],.str,.int .i64,.int .i64,.list [.str],.int .i64,.list [.int .i64],.int .i64,.list [.int .i64]] r):∃a:GStored,r=eStored a∧WStored a:=by
 obtain ⟨p1,r1,rfl,h1,hr1⟩:=all_cons hr
 obtain ⟨n1,rfl⟩:=has_int h1
 obtain ⟨p2,r2,rfl,h2,hr2⟩:=all_cons hr1
 obtain ⟨n2,rfl,g2⟩:=has_str h2
 obtain ⟨p3,r3,rfl,h3,hr3⟩:=all_cons hr2
 obtain ⟨n3,rfl,g3⟩:=decSignedS h3
 obtain ⟨p4,r4,rfl,h4,hr4⟩:=all_cons hr3
 obtain ⟨n4,rfl⟩:=has_bool h4
 obtain ⟨p5,r5,rfl,h5,hr5⟩:=all_cons hr4
 obtain ⟨n5,rfl,g5⟩:=has_str h5
 obtain ⟨p6,r6,rfl,h6,hr6⟩:=all_cons hr5
 obtain ⟨n6,rfl⟩:=has_int h6
 obtain ⟨p7,r7,rfl,h7,hr7⟩:=all_cons hr6
 obtain ⟨n7,rfl⟩:=has_int h7
 obtain ⟨p8,r8,rfl,h8,hr8⟩:=all_cons hr7
 obtain ⟨n8,rfl,g8⟩:=has_strs h8
 obtain ⟨p9,r9,rfl,h9,hr9⟩:=all_cons hr8
 obtain ⟨n9,rfl⟩:=has_int h9
 obtain ⟨p10,r10,rfl,h10,hr10⟩:=all_cons hr9
 obtain ⟨n10,rfl,g10⟩:=has_ints h10
 obtain ⟨p11,r11,rfl,h11,hr11⟩:=all_cons hr10
 obtain ⟨n11,rfl⟩:=has_int h11
 obtain ⟨p12,r12,rfl,h12,hr12⟩:=all_cons hr11
 obtain ⟨n12,rfl,g12⟩:=has_str h12
 obtain ⟨p13,r13,rfl,h13,hr13⟩:=all_cons hr12
 obtain ⟨n13,rfl⟩:=has_int h13
 obtain ⟨p14,r14,rfl,h14,hr14⟩:=all_cons hr13
 obtain ⟨n14,rfl⟩:=has_int h14
 obtain ⟨p15,r15,rfl,h15,hr15⟩:=all_cons hr14
 obtain ⟨n15,rfl,g15⟩:=has_strs h15
 obtain ⟨p16,r16,rfl,h16,hr16⟩:=all_cons hr15
 obtain ⟨n16,rfl,g16⟩:=has_str h16
 obtain ⟨p17,r17,rfl,h17,hr17⟩:=all_cons hr16
 obtain ⟨n17,rfl⟩:=has_int h17
 obtain ⟨p18,r18,rfl,h18,hr18⟩:=all_cons hr17
 obtain ⟨n18,rfl⟩:=has_int h18
 obtain ⟨p19,r19,rfl,h19,hr19⟩:=all_cons hr18
 obtain ⟨n19,rfl,g19⟩:=has_strs h19
 obtain ⟨p20,r20,rfl,h20,hr20⟩:=all_cons hr19
 obtain ⟨n20,rfl⟩:=has_int h20
 obtain ⟨p21,r21,rfl,h21,hr21⟩:=all_cons hr20
 obtain ⟨n21,rfl,g21⟩:=has_ints h21
 obtain ⟨p22,r22,rfl,h22,hr22⟩:=all_cons hr21
 obtain ⟨n22,rfl⟩:=has_int h22
 obtain ⟨p23,rfl,h23⟩:=all_one hr22
 obtain ⟨n23,rfl,g23⟩:=has_ints h23
 exact ⟨⟨n1,n2,⟨n3,n4,⟨n5,n6,n7,n8⟩,⟨n9,n10⟩,⟨n11,⟨n12,n13,n14,n15⟩,⟨n16,n17,n18,n19⟩,⟨n20,n21⟩,⟨n22,n23⟩⟩⟩⟩,rfl,⟨g2,⟨g3,⟨g5,g8⟩,g10,⟨⟨g12,g15⟩,⟨g16,g19⟩,g21,g23⟩⟩⟩⟩
theorem Qal_n (a:GStored) (left:Int) (hw:WStored a) (h2:0≤left) (h3:left≤1048576) (k):call Qal [.agg (eStored a),.one (I left)] k=k [I (szr (mStored a) left)]:=call_of (fun k=>by
 obtain ⟨g0,g1⟩:=hw
 unfold mStored
 simp only [Qal,un,cur0,lenS_eq,binP_sub,wr_left (left:=left) g0 h2 h3,binP_lss,iteP_eq,atP_zero,rt_eq,scs_sc,scs_nil,flat_int,true_and,and_true]
 by_cases c0:((a.Label.size:Nat):Int)≤left
 rotate_left
 ·first | (simp [szr_over c0,show left-((a.Label.size:Nat):Int)<0 by omega];done) | (simp only [szr_over c0,show left-((a.Label.size:Nat):Int)<0 by omega];simp)
 simp only [szr_yes c0,szr_add c0,show ¬(left-((a.Label.size:Nat):Int)<0) by omega,decide_false,Bool.false_eq_true,if_false,Qak_n a.Answer (left-((a.Label.size:Nat):Int)) g1 (by omega) (by omega),binP_lss,iteP_eq,atP_zero,rt_eq,scs_sc,scs_nil,flat_int,true_and,and_true]
 by_cases c1:((mAnswer a.Answer:Nat):Int)≤left-((a.Label.size:Nat):Int)
 rotate_left
 ·first | (simp [szr_not c1,szr_not c1];done) | (simp only [szr_not c1,szr_not c1];simp)
 simp only [szr_yes c1,show ¬(left-((a.Label.size:Nat):Int)-((mAnswer a.Answer:Nat):Int)<0) by omega,decide_false,Bool.false_eq_true,if_false,binP_lss,iteP_eq,atP_zero,rt_eq,scs_sc,scs_nil,flat_int,true_and,and_true]) k
theorem Qaz_n (a:GStored) (h:mStored a≤1048576) (k):call Qaz [.agg (eStored a)] k=k (eStored a):=call_of (fun k=>by
 unfold mStored at h
 simp [Qaz,Qay_n a.Answer (by omega)]) k
theorem Qgu_n (a:GStored) (h:mStored a≤1048576) (k):call Qgu [.agg (eStored a),.agg (eStored a)] k=k [.bool true]:=call_of (fun k=>by
 unfold mStored at h
 simp [Qgu,Qgt_n a.Answer (by omega)]) k
def mStoredS (l:List GStored):Nat:=l.length+sumN mStored l
theorem decStoredS {p:PV} (h:Sh.has (.list [.int .i64,.str,.list [.int .i64,.int .i64,.int .i64,.int .i64,.int .i64,.int .i64,.int .i64,.int .i64,.list [.int .i64],.int .i64,.list [.int .i64],.int .i64,.int .i64,.list [.int .i64],.int .i64,.bool,.list [.int .i64,.int .i64]],.bool,.str,.int .i64,.int .i64,.list [.str],.int .i64,.list [.int .i64],.int .i64,.str,.int .i64,.int .i64,.list [.str],.str,.int .i64,.int .i64,.list [.str],.int .i64,.list [.int .i64],.int .i64,.list [.int .i64]]) p):∃l:List GStored,p=.list 23 (l.map eStored)∧(l.length≤maxLen∧∀y∈l,WStored y):=by
 obtain ⟨l,h1,h2,h3⟩:=has_map decStored 23 rfl h
 exact ⟨l,h1,h2,h3⟩
theorem Qam_n (l:List GStored) (left:Int) (hw:(l.length≤maxLen∧∀y∈l,WStored y)) (h2:0≤left) (h3:left≤1048576) (k):call Qam [.one (.list 23 (l.map eStored)),.one (I left)] k=k [I (szr (mStoredS l) left)]:=call_of (fun k=>by
 simp only [Qam,lenP_eq,List.length_map,binP_sub,wr_left hw.1 h2 h3,binP_lss,iteP_eq,rt_eq,scs_sc,scs_nil,flat_int,true_and,and_true]
 unfold mStoredS
 by_cases c:(l.length:Int)≤left
 rotate_left
 ·simp [szr_over c,show left-(l.length:Int)<0 by omega]
 simp only [szr_add c,show ¬(left-(l.length:Int)<0) by omega,decide_false,Bool.false_eq_true,if_false]
 refine (lp_sz (neg:=k [I (-1)]) (fin:=fun t=>k [I t]) l eStored 23 mStored (left-(l.length:Int)) (I 0) (by omega) (by omega) rfl (fun i x hx hi t ht1 ht2 K=>?_) fun t K=>?_).trans ?_
 ·have e:=Qal_n x t (hw.2 x (List.mem_of_getElem? hx)) ht1 ht2
  simp [-getElem?_pos,Qam_r0,hx,hi,e,wr_succ (show i<1000000000000000000 by omega)]
  by_cases hs:((mStored x:Nat):Int)≤t
  ·simp [szr_yes hs,hs,show ¬(t-((mStored x:Nat):Int)<0) by omega]
  ·simp [szr_not hs,hs]
 ·simp [Qam_r0]
 ·by_cases hs:((sumN mStored l:Nat):Int)≤left-(l.length:Int)
  ·simp [szr_yes hs,hs]
  ·simp [szr_not hs,hs]) k
theorem Qba_n (l:List GStored) (h:mStoredS l≤1048576) (k):call Qba [.one (.list 23 (l.map eStored))] k=k [.list 23 (l.map eStored)]:=call_of (fun k=>by
 have hm:=h
 unfold mStoredS at hm
 simp [Qba,show l.length<1073741824 by omega]
 refine lp_toS l eStored eStored [I 0,.str ⟨#[]⟩,.list 17 [],.bool false,.str ⟨#[]⟩,I 0,I 0,.list 1 [],I 0,.list 1 [],I 0,.str ⟨#[]⟩,I 0,I 0,.list 1 [],.str ⟨#[]⟩,I 0,I 0,.list 1 [],I 0,.list 1 [],I 0,.list 1 []] 23 23 (.list 23 []) rfl (fun i x hx hi K rows hr hz=>?_) fun K=>?_
 ·have hs:mStored x≤sumN mStored l:=sumN_mem (s:=mStored) (List.mem_of_getElem? hx)
  simp [-getElem?_pos,Qba_r0,hx,hi,hr,hz,over,Qaz_n x (by omega),wr_succ (show i<1000000000000000000 by omega)]
 ·simp [Qba_r0]) k
theorem Qgv_n (l:List GStored) (h:mStoredS l≤1048576) (k):call Qgv [.one (.list 23 (l.map eStored)),.one (.list 23 (l.map eStored))] k=k [.bool true]:=call_of (fun k=>by
 have hm:=h
 unfold mStoredS at hm
 simp [Qgv]
 refine lp_eqS l eStored 23 (.bool false) rfl (fun i x hx hi K=>?_) fun K=>?_
 ·have hs:mStored x≤sumN mStored l:=sumN_mem (s:=mStored) (List.mem_of_getElem? hx)
  simp [-getElem?_pos,Qgv_r0,hx,hi,Qgu_n x (by omega),wr_succ (show i<1000000000000000000 by omega)]
 ·simp [Qgv_r0]) k
structure GCache where
 Lst:List GStored
abbrev eCache (a:GCache):List PV:=[.list 23 (a.Lst.map eStored)]
structure GBundle where
 Root:Int
 Path:List ByteArray
 Steps:List GStored
abbrev eBundle (a:GBundle):List PV:=[I a.Root,strs a.Path,.list 23 (a.Steps.map eStored)]
def mBundle (a:GBundle):Nat:=(a.Path.length+sumN ByteArray.size a.Path)+(mStoredS a.Steps)
def WBundle (a:GBundle):Prop:=(a.Path.length≤maxLen∧∀y∈a.Path,y.size≤maxLen)∧(a.Steps.length≤maxLen∧∀y∈a.Steps,WStored y)
theorem decBundle (r:List PV) (hr:Sh.hasAll [.int .i64,.list [.str],.list [.int .i64,.str,.list [.int .i64,.int .i64,.int .i64,.int .i64,.int .i64,.int .i64,.int .i64,.int .i64,.list [.int .i64],.int .i64,.list [.int .i64],.int .i64,.int .i64,.list [.int .i64],.int .i64,.bool,.list [.int .i64,.int .i64]],.bool,.str,.int .i64,.int .i64,.list [.str],.int .i64,.list [.int .i64],.int .i64,.str,.int .i64,.int .i64,.list [.str],.str,.int .i64,.int .i64,.list [.str],.int .i64,.list [.int .i64],.int .i64,.list [.int .i64]]] r):∃a:GBundle,r=eBundle a∧WBundle a:=by
 obtain ⟨p1,r1,rfl,h1,hr1⟩:=all_cons hr
 obtain ⟨n1,rfl⟩:=has_int h1
 obtain ⟨p2,r2,rfl,h2,hr2⟩:=all_cons hr1
 obtain ⟨n2,rfl,g2⟩:=has_strs h2
 obtain ⟨p3,rfl,h3⟩:=all_one hr2
 obtain ⟨n3,rfl,g3⟩:=decStoredS h3
 exact ⟨⟨n1,n2,n3⟩,rfl,⟨g2,g3⟩⟩
theorem Qjr_n (a:GBundle) (left:Int) (hw:WBundle a) (h2:0≤left) (h3:left≤1048576) (k):call Qjr [.agg (eBundle a),.one (I left)] k=k [I (szr (mBundle a) left)]:=call_of (fun k=>by
 obtain ⟨g0,g1⟩:=hw
 unfold mBundle
 simp only [Qjr,un,cur0,Qag_n a.Path (left) g0 h2 h3,binP_lss,iteP_eq,atP_zero,rt_eq,scs_sc,scs_nil,flat_int,true_and,and_true]
 by_cases c0:(((a.Path.length+sumN ByteArray.size a.Path):Nat):Int)≤left
 rotate_left
 ·first | (simp [szr_over c0,szr_not c0];done) | (simp only [szr_over c0,szr_not c0];simp)
 simp only [szr_yes c0,szr_add c0,show ¬(left-(((a.Path.length+sumN ByteArray.size a.Path):Nat):Int)<0) by omega,decide_false,Bool.false_eq_true,if_false,Qam_n a.Steps (left-(((a.Path.length+sumN ByteArray.size a.Path):Nat):Int)) g1 (by omega) (by omega),binP_lss,iteP_eq,atP_zero,rt_eq,scs_sc,scs_nil,flat_int,true_and,and_true]
 by_cases c1:((mStoredS a.Steps:Nat):Int)≤left-(((a.Path.length+sumN ByteArray.size a.Path):Nat):Int)
 rotate_left
 ·first | (simp [szr_not c1,szr_not c1];done) | (simp only [szr_not c1,szr_not c1];simp)
 simp only [szr_yes c1,show ¬(left-(((a.Path.length+sumN ByteArray.size a.Path):Nat):Int)-((mStoredS a.Steps:Nat):Int)<0) by omega,decide_false,Bool.false_eq_true,if_false,binP_lss,iteP_eq,atP_zero,rt_eq,scs_sc,scs_nil,flat_int,true_and,and_true]) k
theorem Qjs_n (a:GBundle) (h:mBundle a≤1048576) (k):call Qjs [.agg (eBundle a)] k=k (eBundle a):=call_of (fun k=>by
 unfold mBundle at h
 simp [Qjs,Qau_n a.Path (by omega),Qba_n a.Steps (by omega)]) k
theorem Qkl_n (a:GBundle) (h:mBundle a≤1048576) (k):call Qkl [.agg (eBundle a),.agg (eBundle a)] k=k [.bool true]:=call_of (fun k=>by
 unfold mBundle at h
 simp [Qkl,Qgp_n a.Path (by omega),Qgv_n a.Steps (by omega)]) k
structure GActor where
 Held:List Int
structure GSaid where
 Zone:GZone
 Held:List Int
structure GWorld where
 Now:Int
 Actors:List GActor
 Zones:List GZone
 Said:List GSaid
 Servers:List GServer
 Known:GKnown
 Cache:GCache
end Go.Ev
set_option linter.unusedVariables false
set_option linter.unusedSimpArgs false
set_option maxRecDepth 4000
namespace Go.Ev
open Go.Proofs
theorem flatRows_map {α:Type} {sz:Nat} {l:List α} {f:α→List PV} (h:∀x∈l,∀p∈f x,p.flat=true):flatRows (.list sz (l.map f)):=by
 intro r hr p hp
 obtain ⟨x,hx,rfl⟩:=List.mem_map.1 hr
 exact h x hx p hp
theorem Clone_int_n (l:List Int) (h:l.length≤1048576) (k):call Qdg [.one (ints l)] k=k [ints l]:=call_of (fun k=>by
 have hf:flatRows (ints l):=flatRows_map fun x _ p hp=>by simp [rI] at hp;subst hp;rfl
 have hb:0+(l.map rI).length<1073741824:=by rw [List.length_map];omega
 simp only [Qdg,nilP,iteP_eq,Bool.false_eq_true,if_false,if_true,catP_eq,hf,List.length_nil,hb,List.nil_append,rt_eq,scs_own,scs_nil,true_and,Nat.zero_le]
 refine ⟨fun q=>q.1,fun q=>⟨q,fun e=>?_⟩⟩
 simp only [Bool.not_false,if_true]
 have e2:=congrArg (PV.list 1) e
 rw [←e2];exact q) k
theorem Clone_string_n (l:List ByteArray) (h:l.length≤1048576) (k):call Qdm [.one (strs l)] k=k [strs l]:=call_of (fun k=>by
 have hf:flatRows (strs l):=flatRows_map fun x _ p hp=>by simp [rS] at hp;subst hp;rfl
 have hb:0+(l.map rS).length<1073741824:=by rw [List.length_map];omega
 simp only [Qdm,nilP,iteP_eq,Bool.false_eq_true,if_false,if_true,catP_eq,hf,List.length_nil,hb,List.nil_append,rt_eq,scs_own,scs_nil,true_and,Nat.zero_le]
 refine ⟨fun q=>q.1,fun q=>⟨q,fun e=>?_⟩⟩
 simp only [Bool.not_false,if_true]
 have e2:=congrArg (PV.list 1) e
 rw [←e2];exact q) k
theorem Clone_Sig_n (l:List GSig) (h:l.length≤1048576) (k):call Qdj [.one (.list 2 (l.map eSig))] k=k [.list 2 (l.map eSig)]:=call_of (fun k=>by
 have hf:flatRows (.list 2 (l.map eSig)):=flatRows_map fun x _ p hp=>by simp [eSig] at hp;rcases hp with rfl | rfl<;>rfl
 have hb:0+(l.map eSig).length<1073741824:=by rw [List.length_map];omega
 simp only [Qdj,nilP,iteP_eq,Bool.false_eq_true,if_false,if_true,catP_eq,hf,List.length_nil,hb,List.nil_append,rt_eq,scs_own,scs_nil,true_and,Nat.zero_le]
 refine ⟨fun q=>q.1,fun q=>⟨q,fun e=>?_⟩⟩
 simp only [Bool.not_false,if_true]
 have e2:=congrArg (PV.list 2) e
 rw [←e2];exact q) k
theorem catP_nil {sz:Nat} {rows:List (List PV)} (h:rows.length≤1048576) (k:PV→Prop):catP sz (.list sz rows) (.list sz []) k=k (.list sz rows):=by
 rw [catP_eq];simp;omega
theorem Qdh_n (a:GKeys) (h:mKeys a≤1048576) (k):call Qdh [.agg (eKeys a)] k=k (eKeys a):=call_of (fun k=>by
 have e:=Clone_int_n a.Lst h
 simp [Qdh,e]) k
theorem Qbb_n (a:GKeys) (h:mKeys a≤1048576) (k):call Qbb [.agg (eKeys a)] k=k (eKeys a):=call_of (fun k=>by
 have h':(a.Lst.map rI).length≤1048576:=by rw [List.length_map];exact h
 simp only [Qbb,un,cur0,catP_nil h',rt_eq,scs_pv,scs_sc,scs_nil,flat_int,true_and]) k
theorem Qdi_n (a:GHead) (h:mHead a≤1048576) (k):call Qdi [.agg (eHead a)] k=k (eHead a):=call_of (fun k=>by
 unfold mHead at h
 simp [Qdi,Qdh_n a.Keys (by omega),Qdh_n a.Heirs (by omega),Qdh_n a.Judge (by omega)]) k
theorem Qbc_n (a:GHead) (h:mHead a≤1048576) (k):call Qbc [.agg (eHead a)] k=k (eHead a):=call_of (fun k=>by
 unfold mHead at h
 simp [Qbc,Qbb_n a.Keys (by omega),Qbb_n a.Heirs (by omega),Qbb_n a.Judge (by omega)]) k
theorem Qdk_n (a:GSigned) (h:mSigned a≤1048576) (k):call Qdk [.agg (eSigned a)] k=k (eSigned a):=call_of (fun k=>by
 unfold mSigned at h
 simp [Qdk,Qdi_n a.Head (by omega),Clone_Sig_n a.Sigs (by omega)]) k
theorem Qbd_n (a:GSigned) (h:mSigned a≤1048576) (k):call Qbd [.agg (eSigned a)] k=k (eSigned a):=call_of (fun k=>by
 unfold mSigned at h
 have h':(a.Sigs.map eSig).length≤1048576:=by rw [List.length_map];omega
 simp only [Qbd,un,cur0,Qbc_n a.Head (by omega),catP_nil h']
 simp) k
theorem chain_le7 {l:List GSigned} (h:mSignedS l≤1048576):l.length≤1048576∧∀x∈l,mSigned x≤1048576:=by
 unfold mSignedS at h
 refine ⟨by omega,fun x hx=>?_⟩
 have:=sumN_mem (s:=mSigned) hx
 omega
theorem Qdl_n (l:List GSigned) (h:mSignedS l≤1048576) (k):call Qdl [.one (.list 17 (l.map eSigned))] k=k [.list 17 (l.map eSigned)]:=call_of (fun k=>by
 obtain ⟨hl,hx0⟩:=chain_le7 h
 simp only [Qdl,lenP_eq,List.length_map,true_and,show (0:Nat)≤16777216 by omega]
 refine lp_list l (fun i=>[.list 17 (l.map eSigned),I l.length,I i,.list 17 [],.list 17 ((l.take i).map eSigned)]) (by simp) (fun i x hx hi K=>?_) fun K=>?_
 ·have e:=Qdk_n x (hx0 x (List.mem_of_getElem? hx))
  rw [take_snoc hx,List.map_append]
  have hb:((l.take i).map eSigned).length+1<1073741824:=by simp;omega
  simp [-getElem?_pos,Qdl_r0,hx,hi,e,wr_succ (show i<1000000000000000000 by omega)]
  omega
 ·simp [Qdl_r0]) k
theorem Qbe_n (l:List GSigned) (h:mSignedS l≤1048576) (k):call Qbe [.one (.list 17 (l.map eSigned))] k=k [.list 17 (l.map eSigned)]:=call_of (fun k=>by
 obtain ⟨hl,hx0⟩:=chain_le7 h
 simp only [Qbe,true_and,show (0:Nat)≤16777216 by omega]
 refine lp_list l (fun i=>[.list 17 (l.map eSigned),I i,.list 17 [],.list 17 ((l.take i).map eSigned)]) (by simp) (fun i x hx hi K=>?_) fun K=>?_
 ·have e:=Qbd_n x (hx0 x (List.mem_of_getElem? hx))
  rw [take_snoc hx,List.map_append]
  simp [-getElem?_pos,Qbe_r0,hx,hi,e,wr_succ (show i<1000000000000000000 by omega)]
  omega
 ·simp [Qbe_r0]) k
theorem Qdn_n (a:GEntry) (h:mEntry a≤1048576) (k):call Qdn [.agg (eEntry a)] k=k (eEntry a):=call_of (fun k=>by
 unfold mEntry at h
 simp [Qdn,Clone_string_n a.Path (by omega)]) k
theorem Qbh_n (l:List ByteArray) (h:l.length≤1048576) (k):call Qbh [.one (strs l)] k=k [strs l]:=call_of (fun k=>by
 have hf:flatRows (strs l):=flatRows_map fun x _ p hp=>by simp [rS] at hp;subst hp;rfl
 have hb:0+(l.map rS).length<1073741824:=by rw [List.length_map];omega
 simp only [Qbh,catP_eq,hf,List.length_nil,hb,List.nil_append,rt_eq,scs_own,scs_pv,scs_nil,true_and,Nat.zero_le]) k
theorem Qbi_n (a:GEntry) (h:mEntry a≤1048576) (k):call Qbi [.agg (eEntry a)] k=k (eEntry a):=call_of (fun k=>by
 unfold mEntry at h
 simp [Qbi,Qbh_n a.Path (by omega)]) k
def inR (n a b:Int):Bool:=decide (a≤n)&&decide (n≤b)
theorem Qdv_n (n a b:Int) (k):call Qdv [.one (I n),.one (I a),.one (I b)] k=k [.bool (inR n a b)]:=call_of (fun k=>by
 simp [Qdv,inR];split<;>simp [*]) k
theorem Qbn_n (n a b:Int) (k):call Qbn [.one (I n),.one (I a),.one (I b)] k=k [.bool (inR n a b)]:=call_of (fun k=>by
 simp [Qbn,inR];split<;>simp [*]) k
theorem mem_get {α:Type} {l:List α} {i:Nat} {x:α} (h:l[i]? = some x):x∈l:=List.mem_of_getElem? h
theorem wr_pred {i:Nat} (h0:0<i) (h:i<1000000000000000000):IntKind.i64.wrap ((i:Int)-1)=((i-1:Nat):Int):=by
 rw [wr_eq (by omega) (by omega)];omega
theorem getD_get {α:Type} {l:List α} {i:Nat} (d:α) (h:i<l.length):l[i]? = some (l.getD i d):=by
 rw [List.getD_eq_getElem?_getD,List.getElem?_eq_getElem h];rfl
def at0 (l:List Int) (i:Nat):Int:=l.getD i 0
theorem at0_get {l:List Int} {i:Nat} (h:i<l.length):l[i]? = some (at0 l i):=getD_get 0 h
def ascP (l:List Int) (i:Nat) (x:Int):Bool:=decide (0<i)&&decide (x≤at0 l (i-1))
def sAsc (l:List Int):Bool:=!anyI (ascP l) 0 l
theorem Qdy_n (l:List Int) (h:l.length<1073741824) (k):call Qdy [.one (ints l)] k=k [.bool (sAsc l)]:=call_of (fun k=>by
 simp [Qdy]
 have:=lp_anyIk (R:=fun L w=>Qdy_r0 w L (k [.bool false]) fun q8 q9 q10 q11=>k [.bool true]) k false l (fun i=>[ints l,.bool false,I l.length,I i]) (ascP l) rfl (fun i x hx hi K=>?_) fun K=>?_
 ·simpa [sAsc] using this
 ·by_cases h0:0<i
  ·have hp:=at0_get (l:=l) (show i-1<l.length by omega)
   simp [-getElem?_pos,Qdy_r0,hx,hi,h0,wr_pred h0 (show i<1000000000000000000 by omega),hp,wr_succ (show i<1000000000000000000 by omega),ascP]
  ·have h1:i=0:=by omega
   subst h1
   simp [-getElem?_pos,Qdy_r0,hi,ascP,wr_eq]
 ·simp [Qdy_r0]) k
def isKeyB (x:Int):Bool:=inR x 1 99
theorem Qdz_n (x:Int) (k):call Qdz [.one (I x)] k=k [.bool (isKeyB x)]:=call_of (fun k=>by simp [Qdz,Qdv_n,isKeyB]) k
def sIsKeys (a:GKeys):Bool:=inR a.Lst.length 1 4&&!(a.Lst.any (fun x=>!isKeyB x)||!sAsc a.Lst)&&inR a.Need 1 a.Lst.length
theorem Qbo_n (a:GKeys) (h:mKeys a≤1048576) (k):call Qbo [.agg [ints a.Lst,I a.Need]] k=k [.bool (sIsKeys a)]:=call_of (fun k=>by
 unfold mKeys at h
 simp [Qbo]
 refine (lp_anyI (P:=k [.bool false]) (fin:=k [.bool (inR a.Lst.length 1 4&&inR a.Need 1 a.Lst.length)]) a.Lst (fun j=>[.bool false,I j,ints a.Lst,I a.Need]) (fun j y=>!isKeyB y||ascP a.Lst j y) rfl (fun j y hy hj K=>?_) fun K=>?_).trans ?_
 ·by_cases h0:0<j
  ·have hp:=at0_get (l:=a.Lst) (show j-1<a.Lst.length by omega)
   simp [-getElem?_pos,Qbo_r0,hy,hj,h0,Qbn_n,wr_pred h0 (show j<1000000000000000000 by omega),hp,wr_succ (show j<1000000000000000000 by omega),ascP,isKeyB]
   cases inR y 1 99<;>simp
  ·have h1:j=0:=by omega
   subst h1
   simp [-getElem?_pos,Qbo_r0,hy,hj,ascP,Qbn_n,isKeyB,wr_eq]
 ·simp [Qbo_r0,Qbn_n]
  cases inR (a.Lst.length:Int) 1 4<;>simp
 ·rw [anyI_or,anyI_const]
  unfold sIsKeys sAsc
  generalize a.Lst.any (fun x=>!isKeyB x)=b1
  generalize anyI (ascP a.Lst) 0 a.Lst=b2
  cases b1<;>cases b2<;>simp) k
theorem asc_mono {l:List Int} (h:sAsc l=true):∀{j i:Nat} {x y:Int},i<j→l[i]? = some x→l[j]? = some y→x<y:=by
 have h1:anyI (ascP l) 0 l=false:=by unfold sAsc at h;simpa using h
 rw [anyI_false] at h1
 have step:∀{j:Nat} {x y:Int},l[j]? = some x→l[j+1]? = some y→x<y:=by
  intro j x y hx hy
  have:=h1 (j+1) y hy
  simp [ascP] at this
  have h2:at0 l j=x:=by
   have:=at0_get (lt_of_get hx)
   rw [hx] at this;injection this with this;exact this.symm
  rw [h2] at this
  omega
 intro j
 induction j with
 | zero=>intro i x y hij;omega
 | succ j ih =>
  intro i x y hij hx hy
  have hj:j<l.length:=by have:=lt_of_get hy;omega
  have hz:=List.getElem?_eq_getElem hj
  by_cases h2:i=j
  ·subst h2;exact step hx hy
  ·have a1:=ih (i:=i) (by omega) hx hz
   have a2:=step hz hy
   omega
theorem asc_range {l:List Int} (h:sAsc l=true) {x y:Int} (hx:l[0]? = some x) (hy:l[l.length-1]? = some y):(l.any fun z=>!isKeyB z)=(!(isKeyB x&&isKeyB y)):=by
 have hlast:∀{z:Int} {i:Nat},l[i]? = some z→x≤z∧z≤y:=by
  intro z i hz
  have hi:=lt_of_get hz
  constructor
  ·by_cases h0:i=0
   ·subst h0;rw [hx] at hz;injection hz with hz;omega
   ·have:=asc_mono h (show 0<i by omega) hx hz;omega
  ·by_cases h0:i=l.length-1
   ·subst h0;rw [hy] at hz;injection hz with hz;omega
   ·have:=asc_mono h (show i<l.length-1 by omega) hz hy;omega
 cases hb:(isKeyB x&&isKeyB y) with
 | true =>
  simp only [Bool.and_eq_true,isKeyB,inR,decide_eq_true_eq] at hb
  rw [Bool.not_true,List.any_eq_false]
  intro z hz
  obtain ⟨i,hi⟩:=List.mem_iff_getElem?.1 hz
  have:=hlast hi
  simp [isKeyB,inR];omega
 | false =>
  rw [Bool.not_false,List.any_eq_true]
  by_cases hk:isKeyB x=true
  ·have hk2:isKeyB y=false:=by rw [hk] at hb;simpa using hb
   exact ⟨y,List.mem_of_getElem? hy,by simp [hk2]⟩
  ·exact ⟨x,List.mem_of_getElem? hx,by simpa using hk⟩
theorem Qea_n (a:GKeys) (h:mKeys a≤1048576) (k):call Qea [.agg [ints a.Lst,I a.Need]] k=k [.bool (sIsKeys a)]:=call_of (fun k=>by
 unfold mKeys at h
 simp [Qea,Qdv_n,sIsKeys]
 cases h1:inR a.Lst.length 1 4 with
 | false=>simp
 | true =>
  have h2:1≤a.Lst.length:=by unfold inR at h1;simp at h1;omega
  simp [Qdy_n a.Lst (by omega)]
  cases h3:sAsc a.Lst with
  | false=>simp
  | true =>
   have hx:=at0_get (l:=a.Lst) (show 0<a.Lst.length by omega)
   have hy:=at0_get (l:=a.Lst) (show a.Lst.length-1<a.Lst.length by omega)
   have hr:=asc_range h3 hx hy
   rw [hr]
   simp [-getElem?_pos,hx,hy,Qdz_n,wr_pred (show 0<a.Lst.length by omega) (show a.Lst.length<1000000000000000000 by omega)]
   cases isKeyB (at0 a.Lst 0)<;>cases isKeyB (at0 a.Lst (a.Lst.length-1))<;>simp) k
deriving instance DecidableEq for GKeys,GHead,GSig,GSigned,GFork,GEntry,GProof,GGap,GAnswer,GZone,GKnown,GServer,GActor,GSaid,GStored,GCache,GWorld
theorem Qfj_n (l:List GSigned) (p:GSigned) (h:l.length≤1048576) (hp:l[l.length-1]? = some p) (k):call Qfj [.one (.list 17 (l.map eSigned))] k=k (eHead p.Head):=call_of (fun k=>by
 have h0:=lt_of_get hp
 simp [-getElem?_pos,Qfj,wr_pred (show 0<l.length by omega) (show l.length<1000000000000000000 by omega),hp]) k
theorem entries_le {l:List GEntry} (h:mEntryS l≤1048576):l.length≤1048576∧∀x∈l,mEntry x≤1048576:=by
 unfold mEntryS at h
 refine ⟨by omega,fun x hx=>?_⟩
 have:=sumN_mem (s:=mEntry) hx
 omega
theorem Qdq_n (a:GProof) (h:mProof a≤1048576) (k):call Qdq [.agg (eProof a)] k=k (eProof a):=call_of (fun k=>by
 unfold mProof at h
 simp [Qdq,Clone_int_n a.Path h]) k
theorem Qbj_n (a:GProof) (h:mProof a≤1048576) (k):call Qbj [.agg (eProof a)] k=k (eProof a):=call_of (fun k=>by
 unfold mProof at h
 have h':(a.Path.map rI).length≤1048576:=by rw [List.length_map];exact h
 simp only [Qbj,un,cur0,catP_nil h',rt_eq,scs_pv,scs_sc,scs_nil,flat_int,true_and]) k
theorem Qdr_n (a:GGap) (h:mGap a≤1048576) (k):call Qdr [.agg (eGap a)] k=k (eGap a):=call_of (fun k=>by
 unfold mGap at h
 simp [Qdr,Qdn_n a.Before (by omega),Qdn_n a.After (by omega),Qdq_n a.Left (by omega),Qdq_n a.Right (by omega)]) k
theorem Qbk_n (a:GGap) (h:mGap a≤1048576) (k):call Qbk [.agg (eGap a)] k=k (eGap a):=call_of (fun k=>by
 unfold mGap at h
 simp [Qbk,Qbi_n a.Before (by omega),Qbi_n a.After (by omega),Qbj_n a.Left (by omega),Qbj_n a.Right (by omega)]) k
theorem Qds_n (a:GAnswer) (h:mAnswer a≤1048576) (k):call Qds [.agg (eAnswer a)] k=k (eAnswer a):=call_of (fun k=>by
 unfold mAnswer at h
 simp [Qds,Qdl_n a.Chain (by omega),Qdn_n a.Entry (by omega),Qdq_n a.Proof (by omega),Qdr_n a.Gap (by omega)]) k
theorem Qbl_n (a:GAnswer) (h:mAnswer a≤1048576) (k):call Qbl [.agg (eAnswer a)] k=k (eAnswer a):=call_of (fun k=>by
 unfold mAnswer at h
 simp [Qbl,Qbe_n a.Chain (by omega),Qbi_n a.Entry (by omega),Qbj_n a.Proof (by omega),Qbk_n a.Gap (by omega)]) k
def sMod (n m:Int):Int:=if inR m 1 1000000000000=true then (wr (n.tmod m+m)).tmod m else 0
theorem Qeg_n (n m:Int) (k):call Qeg [.one (I n),.one (I m)] k=k [I (sMod n m)]:=call_of (fun k=>by
 simp [Qeg,sMod,Qdv_n]
 cases h:inR m 1 1000000000000
 ·simp
 ·have:m≠0:=by simp [inR] at h;omega
  simp [this]) k
theorem Qbs_n (n m:Int) (k):call Qbs [.one (I n),.one (I m)] k=k [I (sMod n m)]:=call_of (fun k=>by
 simp [Qbs,sMod,Qbn_n]
 cases h:inR m 1 1000000000000
 ·simp
 ·have:m≠0:=by simp [inR] at h;omega
  simp [this]) k
def hashStep (acc v:Int):Int:=(wr (wr (wr (acc*1000003)+sMod v 2147483647)+13)).tmod 2147483647
def sHash (l:List Int):Int:=l.foldl hashStep 11
theorem Qeh_n (l:List Int) (hl:l.length<1000000000000000000) (k):call Qeh [.one (ints l)] k=k [I (sHash l)]:=call_of (fun k=>by
 simp [Qeh]
 refine lp_list l (fun i=>[I 0,I ((l.take i).foldl hashStep 11),ints l,I l.length,I i]) rfl (fun i x hx hi K=>?_) fun K=>?_
 ·simp [-getElem?_pos,Qeh_r0,hi,hx,Qeg_n,take_snoc hx,wr_succ (show i<1000000000000000000 by omega),hashStep]
 ·simp [Qeh_r0,sHash]) k
theorem Qbt_n (l:List Int) (hl:l.length<1000000000000000000) (k):call Qbt [.one (ints l)] k=k [I (sHash l)]:=call_of (fun k=>by
 simp [Qbt]
 refine lp_list l (fun i=>[ints l,I 0,I ((l.take i).foldl hashStep 11),I i]) rfl (fun i x hx hi K=>?_) fun K=>?_
 ·simp [-getElem?_pos,Qbt_r0,hi,hx,Qbs_n,take_snoc hx,wr_succ (show i<1000000000000000000 by omega),hashStep]
 ·simp [Qbt_r0,sHash]) k
def b2i (b:UInt8):Int:=b.toNat
def sB2I (s:List UInt8):List Int:=(s.length:Int)::s.map b2i
theorem Qfu_n (s:List UInt8) (hl:s.length<1000000000) (k):call Qfu [.one (byts s)] k=k [ints (sB2I s)]:=call_of (fun k=>by
 simp [Qfu]
 refine lp_list s (fun i=>[byts s,I s.length,I i,.list 1 [],ints ((s.length:Int)::(s.take i).map b2i)]) (by simp) (fun i x hx hi K=>?_) fun K=>?_
 ·have h2:min i s.length=i:=by omega
  simp [-getElem?_pos,Qfu_r0,hi,hx,take_snoc hx,wr_succ (show i<1000000000000000000 by omega),b2i,h2]
  rw [and_iff_right (by omega)]
  simp [ints,rI,Function.comp_def]
 ·simp [Qfu_r0,sB2I]) k
theorem Qct_n (s:List UInt8) (hl:s.length<1000000000) (k):call Qct [.one (byts s)] k=k [ints (sB2I s)]:=call_of (fun k=>by
 simp [Qct]
 refine lp_list s (fun i=>[byts s,I i,.list 1 [],ints ((s.length:Int)::(s.take i).map b2i)]) (by simp) (fun i x hx hi K=>?_) fun K=>?_
 ·have h2:min i s.length=i:=by omega
  simp [-getElem?_pos,Qct_r0,hi,hx,take_snoc hx,wr_succ (show i<1000000000000000000 by omega),b2i,h2]
  rw [and_iff_right (by omega)]
  simp [ints,rI,Function.comp_def]
 ·simp [Qct_r0,sB2I]) k
def sLabelInts (s:ByteArray):List Int:=sB2I s.data.toList
theorem Qfv_n (s:ByteArray) (hl:s.size<1000000000) (k):call Qfv [.one (.str s)] k=k [ints (sLabelInts s)]:=call_of (fun k=>by
 simp [Qfv,Qfu_n _ (show s.data.toList.length<1000000000 by simpa using hl),sLabelInts]) k
theorem Qcu_n (s:ByteArray) (hl:s.size<1000000000) (k):call Qcu [.one (.str s)] k=k [ints (sLabelInts s)]:=call_of (fun k=>by
 simp [Qcu,Qct_n _ (show s.data.toList.length<1000000000 by simpa using hl),sLabelInts]) k
theorem sLabelInts_len (s:ByteArray):(sLabelInts s).length=s.size+1:=by simp [sLabelInts,sB2I]
theorem sumN_take_succ {α:Type} (f:α→Nat):∀(l:List α) (i:Nat) (x:α),l[i]? = some x→sumN f (l.take (i+1))=sumN f (l.take i)+f x
 | [],i,x,h=>by simp at h
 | a::l,0,x,h=>by simp at h;subst h;simp [sumN]
 | a::l,i+1,x,h=>by
  have:=sumN_take_succ f l i x (by simpa using h)
  simp only [List.take_succ_cons,sumN,this];omega
theorem sumN_take_le {α:Type} (f:α→Nat):∀(l:List α) (i:Nat),sumN f (l.take i)≤sumN f l
 | [],i=>by simp
 | a::l,0=>by simp [sumN]
 | a::l,i+1=>by
  have:=sumN_take_le f l i
  simp only [List.take_succ_cons,sumN];omega
theorem flatten_take_len {α:Type}:∀(ls:List (List α)),ls.flatten.length=sumN List.length ls
 | []=>rfl
 | l::ls=>by simp [sumN,flatten_take_len ls]
theorem Qek_n (n:Int) (h0:0≤n) (h:n<1073741824) (k):call Qek [.nil 3 1,.one (I n)] k=k [ints []]:=call_of (fun k=>by
 have w0:IntKind.i64.wrap 0=0:=wr_eq (by omega) (by omega)
 have w1:IntKind.i64.wrap n=n:=wr_eq (by omega) (by omega)
 simp [Qek,w0,w1,show ¬n<0 by omega,natP,makeP,cutP]
 by_cases hn:0<n
 ·simp [hn,h,h0,show n≤1073741823 by omega,show 0≤max n 0 by omega,ints]
 ·simp [hn,ints]) k
theorem flatRows_ints (l:List Int):flatRows (ints l):=by
 intro r hr p hp
 obtain ⟨x,_,rfl⟩:=List.mem_map.1 hr
 simp [rI] at hp
 subst hp;rfl
theorem Qel_n (ls:List (List Int)) (h:ls.length+sumN List.length ls<100000000) (k):call Qel [.one (.list 1 (ls.map fun l=>[ints l]))] k=k [ints ls.flatten]:=call_of (fun k=>by
 simp only [Qel,lenP_eq,List.length_map,atP_zero]
 let L:PV:=.list 1 (ls.map fun l=>[ints l])
 refine lp_list (fin:=k [ints ls.flatten]) ls (fun i=>[L,I ((sumN List.length (ls.take i):Nat):Int),L,I ls.length,I i,.list 1 []]) (by simp [sumN,L]) (fun i x hx hi K=>?_) (fun K=>?_)
 ·have e1:=sumN_take_succ List.length ls i x hx
  have e2:=sumN_take_le List.length ls (i+1)
  have w1:IntKind.i64.wrap (((sumN List.length (ls.take i):Nat):Int)+(x.length:Int))=((sumN List.length (ls.take (i+1)):Nat):Int):=by
   rw [e1];rw [wr_eq (by omega) (by omega)];omega
  simp [-getElem?_pos,Qel_r0,hx,hi,L,w1,wr_succ (show i<1000000000000000000 by omega),show ¬(((sumN List.length (ls.take (i+1)):Nat):Int)<0) by omega]
 ·simp only [Qel_r0,un,cur0,binP_lss,iteP_eq,lenP_eq,L,List.take_length]
  simp [Qek_n ((sumN List.length ls:Nat):Int) (by omega) (by omega)]
  refine lp_list (fin:=k [ints ls.flatten]) ls (fun i=>[L,I ((sumN List.length ls:Nat):Int),L,I ls.length,I ls.length,L,I ls.length,I i,ints (ls.take i).flatten,.list 1 []]) (by simp [L]) (fun i x hx hi K=>?_) fun K=>?_
  ·have e1:=sumN_take_succ List.length ls i x hx
   have e2:=sumN_take_le List.length ls (i+1)
   have e3:(ls.take (i+1)).flatten=(ls.take i).flatten++x:=by
    rw [List.take_add_one,hx];simp
   have e4:=flatten_take_len (ls.take i)
   have e5:(ls.take i).flatten.length+x.length<1073741824:=by omega
   show _↔K [L,I ((sumN List.length ls:Nat):Int),L,I ls.length,I ls.length,L,I ls.length,I ((i+1:Nat):Int),ints (ls.take (i+1)).flatten,.list 1 []]
   rw [e3]
   generalize (ls.take i).flatten=A at e5
   rw [show ints (A++x)=PV.list 1 (A.map rI++x.map rI) by simp [ints]]
   simp [-getElem?_pos,Qel_r1,hx,hi,L,flatRows_ints,catP,wr_succ (show i<1000000000000000000 by omega),e5]
  ·simp [Qel_r1,L]) k
def keysInts (a:GKeys):List Int:=a.Need::(a.Lst.length:Int)::a.Lst
def bitI (b:Bool):Int:=if b=true then 1 else 0
def headInts (a:GHead):List Int :=
 [a.Zone,a.Epoch,a.Kind,a.Time,a.Until,a.Count,a.Root,a.Prev]++(keysInts a.Keys++(keysInts a.Heirs++([a.Wait]++(keysInts a.Judge++[bitI a.Frozen]))))
theorem fc_int (n:Int):flatCond [.pv (I 0)] [.pv (I n)]:=by intro x hx;simp at hx;subst hx;rfl
theorem Qbr_n (a:GKeys) (h:mKeys a≤1048576) (k):call Qbr [.agg (eKeys a)] k=k [ints (keysInts a)]:=call_of (fun k=>by
 unfold mKeys at h
 simp [Qbr,keysInts,flatRows_ints,fc_int,catP,show 2+a.Lst.length<1073741824 by omega]
 exact Iff.rfl) k
theorem Qef_n (a:GKeys) (h:mKeys a≤1048576) (k):call Qef [.agg (eKeys a)] k=k [ints (keysInts a)]:=call_of (fun k=>by
 unfold mKeys at h
 simp [Qef,keysInts,flatRows_ints,fc_int,catP,show 2+a.Lst.length<1073741824 by omega]
 exact Iff.rfl) k
theorem Qej_n (b:Bool) (k):call Qej [.one (.bool b)] k=k [I (bitI b)]:=call_of (fun k=>by
 cases b<;>simp [Qej,bitI]) k
theorem keysInts_len (a:GKeys):(keysInts a).length=2+a.Lst.length:=by simp [keysInts];omega
theorem fc_own (i:Nat):flatCond [.nil 3 1] [.own i]:=by intro x hx;simp at hx;subst hx;trivial
theorem Qem_n (a:GHead) (h:mHead a≤1048576) (k):call Qem [.agg (eHead a)] k=k [ints (headInts a)]:=call_of (fun k=>by
 unfold mHead at h
 have k1:=Qef_n a.Keys (by omega)
 have k2:=Qef_n a.Heirs (by omega)
 have k3:=Qef_n a.Judge (by omega)
 have l1:=keysInts_len a.Keys
 have l2:=keysInts_len a.Heirs
 have l3:=keysInts_len a.Judge
 unfold mKeys at h
 have c:=Qel_n [[a.Zone,a.Epoch,a.Kind,a.Time,a.Until,a.Count,a.Root,a.Prev],keysInts a.Keys,keysInts a.Heirs,[a.Wait],keysInts a.Judge,[bitI a.Frozen]] (by
  simp only [sumN,List.length_cons,List.length_nil,l1,l2,l3];omega) (fun o=>k [atP o 0])
 simp only [Qem,un,cur0,k1,k2,k3,Qej_n,fc_int,fc_own,atP_zero,true_and,and_true,rt_eq,scs_own,show (1:Nat)≤16777216 by omega,show (2:Nat)≤16777216 by omega,show (6:Nat)≤16777216 by omega,show (8:Nat)≤16777216 by omega,scs_nil]
 exact iff_of_eq c) k
theorem Qbv_n (a:GHead) (h:mHead a≤1048576) (k):call Qbv [.agg (eHead a)] k=k [ints (headInts a)]:=call_of (fun k=>by
 unfold mHead at h
 have k1:=Qbr_n a.Keys (by omega)
 have k2:=Qbr_n a.Heirs (by omega)
 have k3:=Qbr_n a.Judge (by omega)
 have l1:=keysInts_len a.Keys
 have l2:=keysInts_len a.Heirs
 have l3:=keysInts_len a.Judge
 unfold mKeys at h
 simp only [Qbv,un,cur0,k1,k2,k3,fc_int,atP_zero,true_and,and_true,rt_eq,show (8:Nat)≤16777216 by omega,scs_nil]
 have e:ints (headInts a)=PV.list 1 (([[I a.Zone],[I a.Epoch],[I a.Kind],[I a.Time],[I a.Until],[I a.Count],[I a.Root],[I a.Prev]]++((keysInts a.Keys).map rI++((keysInts a.Heirs).map rI++([[I a.Wait]]++((keysInts a.Judge).map rI++[[I (bitI a.Frozen)]])))))):=by
  simp [ints,headInts]
 rw [e]
 cases hf:a.Frozen<;>simp [catP,l1,l2,l3,fc_int,bitI]
 all_goals exact ⟨fun h=>h.2.2.2.2.2,fun h=>⟨by omega,by omega,by omega,by omega,by omega,h⟩⟩) k
theorem listEq_dec {α:Type} [DecidableEq α] {eq:α→α→Bool} (h:∀x y,eq x y=decide (x=y)):∀(l m:List α),listEq eq l m=decide (l=m)
 | [],[]=>by simp [listEq]
 | [],y::m=>by simp [listEq]
 | x::l,[]=>by simp [listEq]
 | x::l,y::m=>by rw [listEq,listEq_dec h l m,h];simp [Bool.decide_and]
abbrev eqD {α:Type} [DecidableEq α] (x y:α):Bool:=decide (x=y)
theorem listEq_d {α:Type} [DecidableEq α] (l m:List α):listEq eqD l m=decide (l=m):=listEq_dec (fun _ _=>rfl) l m
theorem len_ne {α:Type} [DecidableEq α] {l m:List α} (h:¬l.length=m.length):decide (l=m)=false:=by simp;intro e;subst e;exact h rfl
theorem Qfa_n (l m:List Int) (h:l.length<1073741824) (k):call Qfa [.one (ints l),.one (ints m)] k=k [.bool (decide (l=m))]:=call_of (fun k=>by
 simp [Qfa]
 by_cases hl:l.length=m.length
 ·rw [←listEq_d]
  simp [hl]
  refine lp_zipk k l m (fun i=>[ints l,ints m,.bool false,I m.length,I i]) eqD rfl hl (fun i x y hx hy hi hj K=>?_) fun K=>?_
  ·simp [-getElem?_pos,Qfa_r0,hx,hy,hj,wr_succ (show i<1000000000000000000 by omega)]
  ·simp [Qfa_r0,hl]
 ·simp [show ¬(l.length:Int)=m.length by omega,len_ne hl]) k
theorem Qce_n (l m:List Int) (h:l.length<1073741824) (k):call Qce [.one (ints l),.one (ints m)] k=k [.bool (decide (l=m))]:=call_of (fun k=>by
 simp [Qce]
 by_cases hl:l.length=m.length
 ·rw [←listEq_d]
  simp [hl]
  refine lp_zipk k l m (fun i=>[ints l,ints m,.bool false,I i]) eqD rfl hl (fun i x y hx hy hi hj K=>?_) fun K=>?_
  ·simp [-getElem?_pos,Qce_r0,hx,hy,hi,wr_succ (show i<1000000000000000000 by omega)]
  ·simp [Qce_r0]
 ·simp [show ¬(l.length:Int)=m.length by omega,len_ne hl]) k
theorem Qfb_n (a b:GKeys) (h:mKeys a≤1048576) (k):call Qfb [.agg (eKeys a),.agg (eKeys b)] k=k [.bool (decide (a=b))]:=call_of (fun k=>by
 unfold mKeys at h
 obtain ⟨l,n⟩:=a
 obtain ⟨m,q⟩:=b
 simp [Qfb,Qfa_n l m (by simp at h;omega)]
 by_cases hl:l=m<;>by_cases hn:n=q<;>simp [hl,hn,show (n==q)=decide (n=q) from rfl]) k
theorem headInts_len (a:GHead):(headInts a).length=16+mHead a:=by simp [headInts,keysInts,mHead,mKeys];omega
theorem stepB {b c:Bool} {P:Prop} {k:List PV→Prop} (h:b=true→(P↔k [.bool c])):(if b=true then P else k [.bool false])↔k [.bool (b&&c)]:=by
 cases b
 ·simp
 ·simpa using h rfl
theorem stepN {b c:Bool} {P:Prop} {k:List PV→Prop} (h:b=true→(P↔k [.bool c])):(if (!b)=true then k [.bool false] else P)↔k [.bool (b&&c)]:=by
 cases b
 ·simp
 ·simpa using h rfl
def sNo (a:GKeys):Bool:=decide (a.Need=0)&&decide (a.Lst.length=0)
theorem Qeb_n (a:GKeys) (k):call Qeb [.agg (eKeys a)] k=k [.bool (sNo a)]:=call_of (fun k=>by
 have e:((a.Lst.length:Int)==0)=decide (a.Lst.length=0):=by
  by_cases h:a.Lst.length=0
  ·rw [h];rfl
  ·rw [decide_eq_false h];exact beq_eq_false_iff_ne.2 (by omega)
 simp only [Qeb,un,cur0,binP_eql,lenP_eq,List.length_map,e,sNo,iteP_eq,rt_eq,scs_sc,scs_nil,flat_bool,true_and,and_true]
 by_cases h:a.Need=0<;>simp [h]) k
theorem Qbp_n (a:GKeys) (k):call Qbp [.agg (eKeys a)] k=k [.bool (sNo a)]:=call_of (fun k=>by
 have e:((a.Lst.length:Int)==0)=decide (a.Lst.length=0):=by
  by_cases h:a.Lst.length=0
  ·rw [h];rfl
  ·rw [decide_eq_false h];exact beq_eq_false_iff_ne.2 (by omega)
 simp only [Qbp,un,cur0,binP_eql,lenP_eq,List.length_map,e,sNo,iteP_eq,rt_eq,scs_sc,scs_nil,flat_bool,true_and,and_true]
 by_cases h:a.Need=0<;>simp [h]) k
theorem sNo_keys {a:GKeys} (h:sNo a=true):sIsKeys a=false:=by
 unfold sNo at h
 simp only [Bool.and_eq_true,decide_eq_true_eq] at h
 unfold sIsKeys inR
 simp [h.2]
def sMaybe (a:GKeys):Bool:=sNo a||sIsKeys a
def sJudge (a:GHead):Bool:=sIsKeys a.Judge||(sNo a.Judge&&!a.Frozen)
def sWait (a:GHead):Bool:=if sNo a.Heirs=true then decide (a.Wait=0)&&sJudge a else sIsKeys a.Heirs&&(inR a.Wait 1 500&&sJudge a)
def sIsHead (a:GHead):Bool :=
 inR a.Zone 0 2147483646&&(inR a.Root 0 2147483646&&(inR a.Prev 0 2147483646&&(inR a.Epoch 0 200&&(inR a.Kind 1 3&&(inR a.Time 0 100000&&(inR a.Until a.Time 100000&&(decide (a.Until-a.Time≤200) &&
 (inR a.Count 0 12&&(sIsKeys a.Keys&&sWait a)))))))))
theorem keys_le {a:GHead} (h:mHead a≤1048576):mKeys a.Keys≤1048576∧mKeys a.Heirs≤1048576∧mKeys a.Judge≤1048576:=by unfold mHead at h;omega
theorem Qbq_n (a:GHead) (h:mHead a≤1048576) (k):call Qbq [.agg (eHead a)] k=k [.bool (sIsHead a)]:=call_of (fun k=>by
 obtain ⟨h1,h2,h3⟩:=keys_le h
 have e1:=Qbo_n a.Keys h1
 have e2:=Qbo_n a.Heirs h2
 have e3:=Qbo_n a.Judge h3
 simp only [Qbq,un,cur0,Qbn_n,e1,e2,e3,Qbp_n,unP_not,atP_zero,iteP_eq,rt_eq,scs_sc,scs_nil,flat_bool,true_and,and_true,binP_sub,binP_gtr]
 refine stepN fun _=>stepN fun _=>stepN fun _=>stepN fun _=>stepN fun _=>stepN fun ht=>stepN fun hu=>?_
 have hw:IntKind.i64.wrap (a.Until-a.Time)=a.Until-a.Time:=by
  simp only [inR,Bool.and_eq_true,decide_eq_true_eq] at ht hu
  exact wr_eq (by omega) (by omega)
 rw [hw,show decide (200<a.Until-a.Time)=!decide (a.Until-a.Time≤200) by by_cases h:a.Until-a.Time≤200<;>simp [h]<;>omega]
 refine stepN fun _=>stepN fun _=>stepN fun _=>?_
 unfold sWait sJudge
 cases sNo a.Heirs<;>cases sIsKeys a.Heirs<;>cases inR a.Wait 1 500<;>cases sIsKeys a.Judge<;>cases sNo a.Judge<;>cases a.Frozen<;>by_cases hz:a.Wait=0<;>simp [hz]) k
theorem headLaw:∀(nh kh nj kj wt w0 fr:Bool) (h1:nh=true→kh=false) (h2:nj=true→kj=false),((nh||kh)&&((nj||kj)&&((if nh=true then w0 else wt)&&!(fr&&nj))))=(if nh=true then w0&&(kj||(nj&&!fr)) else kh&&(wt&&(kj||(nj&&!fr)))):=by decide
theorem Qee_n (a:GHead) (h:mHead a≤1048576) (k):call Qee [.agg (eHead a)] k=k [.bool (sIsHead a)]:=call_of (fun k=>by
 obtain ⟨h1,h2,h3⟩:=keys_le h
 have e1:=Qea_n a.Keys h1
 have e2:=Qea_n a.Heirs h2
 have e3:=Qea_n a.Judge h3
 have d:∀x k,call Qdw [.one (I x)] k=k [.bool (inR x 0 2147483646)]:=fun x=>call_of (fun k=>by simp [Qdw,Qdv_n])
 have m2:∀k,call Qec [.agg (eKeys a.Heirs)] k=k [.bool (sMaybe a.Heirs)]:=call_of (fun k=>by
  simp [Qec,Qeb_n,e2,sMaybe];cases sNo a.Heirs<;>simp)
 have m3:∀k,call Qec [.agg (eKeys a.Judge)] k=k [.bool (sMaybe a.Judge)]:=call_of (fun k=>by
  simp [Qec,Qeb_n,e3,sMaybe];cases sNo a.Judge<;>simp)
 have m4:∀k,call Qed [.one (I a.Wait),.agg (eKeys a.Heirs)] k=k [.bool (if sNo a.Heirs=true then decide (a.Wait=0) else inR a.Wait 1 500)]:=call_of (fun k=>by
  simp [Qed,Qeb_n,Qdv_n];cases sNo a.Heirs<;>simp
  by_cases hz:a.Wait=0
  ·simp [hz]
  ·rw [show (a.Wait==0)=false from beq_eq_false_iff_ne.2 hz];simp [hz])
 have m5:∀k,call Qdx [.agg (eHead a)] k=k [.bool (inR a.Time 0 100000&&(inR a.Until a.Time 100000&&decide (a.Until-a.Time≤200)))]:=call_of (fun k=>by
  simp only [Qdx,un,cur0,binP_geq,binP_leq,binP_sub,iteP_eq,rt_eq,scs_sc,scs_nil,flat_bool,true_and,and_true]
  by_cases c1:0≤a.Time
  ·by_cases c2:a.Time≤a.Until
   ·by_cases c3:a.Until≤100000
    ·rw [wr_eq (show -9223372036854775808≤a.Until-a.Time by omega) (by omega)]
     simp [c1,c2,c3,inR,show a.Time≤100000 by omega]
    ·simp [c1,c2,c3,inR]
   ·simp [c1,c2,inR]
  ·simp [c1,inR])
 simp only [Qee,un,cur0,d,Qdv_n,e1,m2,m3,m4,m5,Qeb_n,unP_not,atP_zero,iteP_eq,rt_eq,scs_sc,scs_nil,flat_bool,true_and,and_true]
 have key:∀z r p e q sp c ks mh mj wt no fr:Bool,(if z=true then if r=true then if p=true then if e=true then if q=true then if sp=true then if c=true then if ks=true then if mh=true then if mj=true then if wt=true then
  if fr=true then k [.bool !no] else k [.bool true] else k [.bool false] else k [.bool false] else k [.bool false] else k [.bool false] else k [.bool false] else k [.bool false] else k [.bool false] else k [.bool false] else k [.bool false] else k [.bool false] else k [.bool false]) ↔
  k [.bool (z&&(r&&(p&&(e&&(q&&(sp&&(c&&(ks&&(mh&&(mj&&(wt&&!(fr&&no))))))))))))]:=by
  intro z r p e q sp c ks mh mj wt no fr
  refine stepB fun _=>stepB fun _=>stepB fun _=>stepB fun _=>stepB fun _=>stepB fun _=>stepB fun _=>stepB fun _=>stepB fun _=>stepB fun _=>stepB fun _=>?_
  cases fr<;>simp
 refine (key _ _ _ _ _ _ _ _ _ _ _ _ _).trans ?_
 apply iff_of_eq
 congr 3
 unfold sIsHead sWait sJudge sMaybe
 simp only [Bool.and_assoc]
 rw [headLaw _ _ _ _ _ _ _ (@sNo_keys a.Heirs) (@sNo_keys a.Judge)]) k
theorem beqI (a b:Int):(a==b)=decide (a=b):=by
 by_cases h:a=b
 ·subst h;simp
 ·rw [decide_eq_false h];exact beq_eq_false_iff_ne.2 h
def sKH (key:Int) (m:List Int):Int:=sHash (key::(m++[key]))
theorem Qen_n (key:Int) (m:List Int) (h:m.length<90000000) (k):call Qen [.one (I key),.one (ints m)] k=k [I (sKH key m)]:=call_of (fun k=>by
 have e:∀k,call Qel [.one (.list 1 [[.list 1 [[I key]]],[ints m],[.list 1 [[I key]]]])] k=k [ints (key::(m++[key]))]:=fun k=>by
  have:=Qel_n [[key],m,[key]] (by simp [sumN];omega) k
  simpa [ints] using this
 have e2:=Qeh_n (key::(m++[key])) (by simp;omega)
 simp only [Qen,un,cur0,fc_int,fc_own,true_and,e,atP_zero,e2,rt_eq,scs_sc,scs_nil,flat_int]
 simp [sKH]) k
theorem Qbw_n (key:Int) (m:List Int) (h:m.length<90000000) (k):call Qbw [.one (I key),.one (ints m)] k=k [I (sKH key m)]:=call_of (fun k=>by
 have e2:=Qbt_n (key::(m++[key])) (by simp;omega)
 have e3:(PV.list 1 ([I key]::(m.map rI++[[I key]])))=ints (key::(m++[key])):=by simp [ints]
 simp [Qbw,fc_int,flatRows_ints,catP,show 1+m.length<1073741824 by omega]
 rw [e3,e2]
 simp [sKH]
 try (intros;omega)) k
def sTag (key:Int) (m:List Int):Int:=sKH key (223::m)
theorem Qeo_n (key:Int) (m:List Int) (h:m.length<80000000) (k):call Qeo [.one (I key),.one (ints m)] k=k [I (sTag key m)]:=call_of (fun k=>by
 have e2:=Qen_n key (223::m) (by simp;omega)
 have e3:PV.list 1 ([I 223]::m.map rI)=ints (223::m):=by simp [ints]
 simp [Qeo,fc_int,flatRows_ints,catP,show 1+m.length<1073741824 by omega]
 rw [e3,e2]
 simp [sTag]
 try (intros;omega)) k
theorem Qbx_n (key:Int) (m:List Int) (h:m.length<80000000) (k):call Qbx [.one (I key),.one (ints m)] k=k [I (sTag key m)]:=call_of (fun k=>by
 have e2:=Qbw_n key (223::m) (by simp;omega)
 have e3:PV.list 1 ([I 223]::m.map rI)=ints (223::m):=by simp [ints]
 simp [Qbx,fc_int,flatRows_ints,catP,show 1+m.length<1073741824 by omega]
 rw [e3,e2]
 simp [sTag]
 try (intros;omega)) k
def sDigest (a:GHead):Int:=sHash (233::headInts a)
theorem Qex_n (a:GHead) (h:mHead a≤1048576) (k):call Qex [.agg (eHead a)] k=k [I (sDigest a)]:=call_of (fun k=>by
 have hl:=headInts_len a
 have e1:=Qem_n a h
 have e2:=Qeh_n (233::headInts a) (by simp;omega)
 have e3:PV.list 1 ([I 233]::(headInts a).map rI)=ints (233::headInts a):=by simp [ints]
 simp [Qex,fc_int,e1,catP,show 1+(headInts a).length<1073741824 by omega]
 rw [e3,e2]
 simp [sDigest]
 try (intros;omega)) k
theorem Qcc_n (a:GHead) (h:mHead a≤1048576) (k):call Qcc [.agg (eHead a)] k=k [I (sDigest a)]:=call_of (fun k=>by
 have hl:=headInts_len a
 have e1:=Qbv_n a h
 have e2:=Qbt_n (233::headInts a) (by simp;omega)
 have e3:PV.list 1 ([I 233]::(headInts a).map rI)=ints (233::headInts a):=by simp [ints]
 simp [Qcc,fc_int,e1,catP,show 1+(headInts a).length<1073741824 by omega]
 rw [e3,e2]
 simp [sDigest]
 try (intros;omega)) k
def sZoneOf (a:GKeys) (salt:Int):Int:=sHash (239::salt::keysInts a)
theorem Qei_n (a:GKeys) (salt:Int) (h:mKeys a≤1048576) (k):call Qei [.agg (eKeys a),.one (I salt)] k=k [I (sZoneOf a salt)]:=call_of (fun k=>by
 have hl:=keysInts_len a
 have h':=h
 unfold mKeys at h'
 have e1:=Qef_n a h
 have e2:=Qeh_n (239::salt::keysInts a) (by simp;omega)
 have e3:PV.list 1 ([I 239]::[I salt]::(keysInts a).map rI)=ints (239::salt::keysInts a):=by simp [ints]
 simp [Qei,fc_int,e1,catP,show 2+(keysInts a).length<1073741824 by omega]
 rw [e3,e2]
 simp [sZoneOf]
 try (intros;omega)) k
theorem Qbu_n (a:GKeys) (salt:Int) (h:mKeys a≤1048576) (k):call Qbu [.agg (eKeys a),.one (I salt)] k=k [I (sZoneOf a salt)]:=call_of (fun k=>by
 have hl:=keysInts_len a
 have h':=h
 unfold mKeys at h'
 have e1:=Qbr_n a h
 have e2:=Qbt_n (239::salt::keysInts a) (by simp;omega)
 have e3:PV.list 1 ([I 239]::[I salt]::(keysInts a).map rI)=ints (239::salt::keysInts a):=by simp [ints]
 simp [Qbu,fc_int,e1,catP,show 2+(keysInts a).length<1073741824 by omega]
 rw [e3,e2]
 simp [sZoneOf]
 try (intros;omega)) k
def sSigBy (m:List Int) (s:GSig):Bool:=isKeyB s.Key&&decide (s.Tag=sTag s.Key m)
theorem Qep_n (s:GSig) (m:List Int) (h:m.length<80000000) (k):call Qep [.agg (eSig s),.one (ints m)] k=k [.bool (sSigBy m s)]:=call_of (fun k=>by
 have e:=Qeo_n s.Key m h
 simp only [Qep,un,cur0,Qdz_n,e,atP_zero,binP_eql,iteP_eq,rt_eq,scs_sc,scs_nil,flat_bool,true_and,and_true]
 exact stepB (c:=decide (s.Tag=sTag s.Key m)) fun _=>by rw [beqI]) k
theorem Qby_n (s:GSig) (m:List Int) (h:m.length<80000000) (k):call Qby [.agg (eSig s),.one (ints m)] k=k [.bool (sSigBy m s)]:=call_of (fun k=>by
 have e:=Qbx_n s.Key m h
 simp only [Qby,un,cur0,Qbn_n,e,atP_zero,binP_eql,iteP_eq,rt_eq,scs_sc,scs_nil,flat_bool,true_and,and_true]
 exact stepB (b:=isKeyB s.Key) (c:=decide (s.Tag=sTag s.Key m)) fun _=>by rw [beqI]) k
def sigP (m:List Int) (key:Int) (s:GSig):Bool:=decide (s.Key=key)&&sSigBy m s
def sCount (a:GKeys) (m:List Int) (l:List GSig):Nat:=a.Lst.countP fun key=>l.any (sigP m key)
theorem slices_ContainsFunc_Sig_n (l:List GSig) (key:Int) (m:List Int) (hl:l.length≤1048576) (h:m.length<80000000) (k):call Qes [.one (.list 2 (l.map eSig)),.fn 433 [.cells [I key],.cells [ints m]]] k=k [.bool (l.any (sigP m key))]:=call_of (fun k=>by
 have e:∀k,call Qer [.one (.list 2 (l.map eSig)),.fn 433 [.cells [I key],.cells [ints m]]] k=k [I (idx (sigP m key) l)]:=call_of (fun k=>by
  simp [Qer]
  refine lp_find (Q:=fun i=>k [I i]) l (fun i=>[.list 2 (l.map eSig),I key,ints m,I 0,I l.length,I i]) (sigP m key) rfl (fun i x hx hi K=>?_) fun K=>?_
  ·have e1:∀k,call Qeq [.agg (eSig x),.ro (.cells [I key]),.ro (.cells [ints m])] k=k [.bool (sigP m key x)]:=call_of (fun k=>by
    have e:=Qep_n x m h
    simp only [Qeq,un,cur0,binP_eql,e,atP_zero,iteP_eq,rt_eq,scs_sc,scs_nil,flat_bool,true_and,and_true]
    by_cases hk:x.Key=key<;>simp [hk,sigP])
   simp [-getElem?_pos,Qer_r0,hx,hi,e1,wr_succ (show i<1000000000000000000 by omega)]
  ·simp [Qer_r0])
 simp [Qes,e,idx_any]) k
theorem Qet_n (a:GKeys) (m:List Int) (l:List GSig) (h:mKeys a≤1048576) (hm:m.length<80000000) (hl:l.length≤1048576) (k):call Qet [.agg (eKeys a),.one (ints m),.one (.list 2 (l.map eSig))] k=k [I (sCount a m l)]:=call_of (fun k=>by
 unfold mKeys at h
 simp [Qet]
 refine lp_list a.Lst (fun i=>[.list 2 (l.map eSig),I 0,I ((a.Lst.take i).countP fun key=>l.any (sigP m key):Nat),ints a.Lst,I a.Lst.length,I i,ints m]) rfl (fun i x hx hi K=>?_) fun K=>?_
 ·have hc:(a.Lst.take i).countP (fun key=>l.any (sigP m key))≤i:=Nat.le_trans List.countP_le_length (by simp;omega)
  have e:=slices_ContainsFunc_Sig_n l x m hl hm
  simp only [Qet_r0,un,cur0,binP_lss,iteP_eq,show decide ((i:Int)<a.Lst.length)=true by simp;omega,if_true,elemP,ints,List.getElem?_map,hx,Int.toNat_natCast,Option.map_some,true_and,atP_zero,rI]
  rw [show PV.list 1 (m.map fun n=>[I n])=ints m from rfl]
  simp only [e,atP_zero,iteP_eq,binP_add,wr_succ (show i<1000000000000000000 by omega),wr_succ (show (a.Lst.take i).countP (fun key=>l.any (sigP m key))<1000000000000000000 by omega)]
  rw [take_snoc hx,List.countP_append,List.countP_cons,List.countP_nil]
  cases hb:l.any (sigP m x)<;>simp [hb]
 ·simp [Qet_r0,sCount]) k
theorem Qbz_n (a:GKeys) (m:List Int) (l:List GSig) (h:mKeys a≤1048576) (hm:m.length<80000000) (hl:l.length≤1048576) (k):call Qbz [.agg (eKeys a),.one (ints m),.one (.list 2 (l.map eSig))] k=k [I (sCount a m l)]:=call_of (fun k=>by
 unfold mKeys at h
 simp only [Qbz,un,cur0,rt_eq,scs_sc,scs_nil,flat_int,true_and]
 refine lp_list a.Lst (fun i=>[ints m,.list 2 (l.map eSig),I 0,I ((a.Lst.take i).countP fun key=>l.any (sigP m key):Nat),I i,ints a.Lst,I a.Need]) rfl (fun i x hx hi K=>?_) fun K=>?_
 ·have hc:(a.Lst.take i).countP (fun key=>l.any (sigP m key))≤i:=Nat.le_trans List.countP_le_length (by simp;omega)
  simp [-getElem?_pos,Qbz_r0,hi]
  rw [take_snoc hx,List.countP_append,List.countP_cons,List.countP_nil]
  generalize hn:(a.Lst.take i).countP (fun key=>l.any (sigP m key))=n at hc
  refine (lp_any (P:=K [ints m,.list 2 (l.map eSig),I 0,I ((n+1:Nat):Int),I ((i+1:Nat):Int),ints a.Lst,I a.Need]) (fin:=K [ints m,.list 2 (l.map eSig),I 0,I (n:Int),I ((i+1:Nat):Int),ints a.Lst,I a.Need]) l (fun j=>[ints m,.list 2 (l.map eSig),I 0,I (n:Int),I i,I j,ints a.Lst,I a.Need]) (sigP m x) rfl (fun j y hy hj K=>?_) fun K=>?_).trans ?_
  ·have e:=Qby_n y m hm
   simp [-getElem?_pos,Qbz_r1,hx,hy,hj,e,sigP,wr_succ (show j<1000000000000000000 by omega),wr_succ (show n<1000000000000000000 by omega),wr_succ (show i<1000000000000000000 by omega)]
   by_cases hk:y.Key=x<;>simp [hk]
  ·simp [Qbz_r1,wr_succ (show i<1000000000000000000 by omega)]
  ·cases hb:l.any (sigP m x)<;>simp [hb]
 ·simp [Qbz_r0,sCount]) k
def sIsSigned (a:GKeys) (m:List Int) (l:List GSig):Bool:=sIsKeys a&&decide (a.Need≤(sCount a m l:Int))
theorem Qeu_n (a:GKeys) (m:List Int) (l:List GSig) (h:mKeys a≤1048576) (hm:m.length<80000000) (hl:l.length≤1048576) (k):call Qeu [.agg (eKeys a),.one (ints m),.one (.list 2 (l.map eSig))] k=k [.bool (sIsSigned a m l)]:=call_of (fun k=>by
 have e1:=Qea_n a h
 have e2:=Qet_n a m l h hm hl
 simp only [Qeu,un,cur0,e1,e2,atP_zero,iteP_eq,rt_eq,scs_sc,scs_nil,flat_bool,true_and,and_true,binP_geq]
 exact stepB fun _=>Iff.rfl) k
theorem Qca_n (a:GKeys) (m:List Int) (l:List GSig) (h:mKeys a≤1048576) (hm:m.length<80000000) (hl:l.length≤1048576) (k):call Qca [.agg (eKeys a),.one (ints m),.one (.list 2 (l.map eSig))] k=k [.bool (sIsSigned a m l)]:=call_of (fun k=>by
 have e1:=Qbo_n a h
 have e2:=Qbz_n a m l h hm hl
 simp only [Qca,un,cur0,e1,e2,atP_zero,iteP_eq,rt_eq,scs_sc,scs_nil,flat_bool,true_and,and_true,binP_geq]
 exact stepB fun _=>Iff.rfl) k
theorem signed_le {s:GSigned} (h:mSigned s≤1048576):mHead s.Head≤1048576∧s.Sigs.length≤1048576∧(headInts s.Head).length<80000000:=by
 have hl:=headInts_len s.Head
 unfold mSigned at h
 omega
def sBy (s:GSigned) (a:GKeys):Bool:=sIsSigned a (headInts s.Head) s.Sigs
theorem impl_isSignedBy_n (s:GSigned) (a:GKeys) (h:mSigned s≤1048576) (ha:mKeys a≤1048576) (k):call Qev [.agg (eSigned s),.agg (eKeys a)] k=k [.bool (sBy s a)]:=call_of (fun k=>by
 obtain ⟨h1,h2,h3⟩:=signed_le h
 have e1:=Qem_n s.Head h1
 have e2:=Qeu_n a (headInts s.Head) s.Sigs ha h3 h2
 simp only [Qev,un,cur0,e1,e2,atP_zero,rt_eq,scs_sc,scs_nil,flat_bool,true_and,and_true,sBy]) k
def sIsFirst (s:GSigned):Bool:=sIsHead s.Head&&(decide (s.Head.Epoch=0)&&(decide (s.Head.Kind=1)&&(!s.Head.Frozen&&(decide (s.Head.Zone=sZoneOf s.Head.Keys s.Head.Prev)&&sBy s s.Head.Keys))))
theorem Qew_n (s:GSigned) (h:mSigned s≤1048576) (k):call Qew [.agg (eSigned s)] k=k [.bool (sIsFirst s)]:=call_of (fun k=>by
 obtain ⟨h1,h2,h3⟩:=signed_le h
 obtain ⟨q1,q2,q3⟩:=keys_le h1
 have e1:=Qee_n s.Head h1
 have e2:=Qei_n s.Head.Keys s.Head.Prev q1
 have e3:=impl_isSignedBy_n s s.Head.Keys h q1
 simp only [Qew,un,cur0,e1,e2,e3,binP_eql,beqI,unP_not,atP_zero,iteP_eq,rt_eq,scs_sc,scs_nil,flat_bool,true_and,and_true]
 exact stepB fun _=>stepB fun _=>stepB fun _=>stepB fun _=>stepB fun _=>Iff.rfl) k
theorem Qcb_n (s:GSigned) (h:mSigned s≤1048576) (k):call Qcb [.agg (eSigned s)] k=k [.bool (sIsFirst s)]:=call_of (fun k=>by
 obtain ⟨h1,h2,h3⟩:=signed_le h
 obtain ⟨q1,q2,q3⟩:=keys_le h1
 have e1:=Qbq_n s.Head h1
 have e2:=Qbu_n s.Head.Keys s.Head.Prev q1
 have e3:=Qbv_n s.Head h1
 have e4:=Qca_n s.Head.Keys (headInts s.Head) s.Sigs q1 h3 h2
 simp only [Qcb,un,cur0,e1,e2,e3,e4,binP_eql,beqI,unP_not,atP_zero,iteP_eq,rt_eq,scs_sc,scs_nil,flat_bool,true_and,and_true]
 exact stepB fun _=>stepB fun _=>stepB fun _=>stepB fun _=>stepB fun _=>Iff.rfl) k
theorem stepI {b:Bool} {v c:Int} {P:Prop} {k:List PV→Prop} (h:b=false→(P↔k [I c])):(if b=true then k [I v] else P)↔k [I (if b=true then v else c)]:=by
 cases b
 ·simpa using h rfl
 ·simp
theorem stepJ {b:Bool} {v c:Int} {P:Prop} {k:List PV→Prop} (h:b=true→(P↔k [I c])):(if (!b)=true then k [I v] else P)↔k [I (if b=true then c else v)]:=by
 cases b
 ·simp
 ·simpa using h rfl
def sSame (a b:GHead):Bool:=decide (a.Count=b.Count)&&decide (a.Root=b.Root)
theorem Qfc_n (a b:GHead) (k):call Qfc [.agg (eHead a),.agg (eHead b)] k=k [.bool (sSame a b)]:=call_of (fun k=>by
 simp only [Qfc,un,cur0,binP_eql,beqI,iteP_eq,rt_eq,scs_sc,scs_nil,flat_bool,true_and,and_true]
 exact stepB fun _=>Iff.rfl) k
theorem Qcg_n (a b:GHead) (k):call Qcg [.agg (eHead a),.agg (eHead b)] k=k [.bool (sSame a b)]:=call_of (fun k=>by
 simp only [Qcg,un,cur0,binP_eql,beqI,iteP_eq,rt_eq,scs_sc,scs_nil,flat_bool,true_and,and_true]
 exact stepB fun _=>Iff.rfl) k
def sNext (p h:GHead):Bool:=decide (h.Zone=p.Zone)&&(decide (h.Epoch=IntKind.i64.wrap (p.Epoch+1))&&(decide (h.Prev=sDigest p)&&decide (p.Time≤h.Time)))
theorem Qey_n (p h:GHead) (hp:mHead p≤1048576) (k):call Qey [.agg (eHead p),.agg (eHead h)] k=k [.bool (sNext p h)]:=call_of (fun k=>by
 have e:=Qex_n p hp
 simp only [Qey,un,cur0,e,binP_eql,binP_geq,binP_add,beqI,atP_zero,iteP_eq,rt_eq,scs_sc,scs_nil,flat_bool,true_and,and_true]
 exact stepB fun _=>stepB fun _=>stepB fun _=>Iff.rfl) k
def sOwner (p:GHead) (s:GSigned):Int:=if p.Frozen=true then 4 else if s.Head.Frozen=true then 6 else if sBy s p.Keys=true then 1 else 7
def sHeir (p:GHead) (s:GSigned):Int:=if p.Frozen=true then 4 else if sNo p.Heirs=true then 5 else if decide (s.Head.Time<IntKind.i64.wrap (p.Until+p.Wait))=true then 5 else if s.Head.Frozen=true then 6 else
 if decide (s.Head.Keys=p.Heirs)=true then (if sSame s.Head p=true then (if sBy s p.Heirs=true then 1 else 7) else 6) else 6
def sJC (p:GHead) (s:GSigned):Int:=if sNo p.Judge=true then 5 else if decide (s.Head.Frozen=p.Frozen)=true then 6 else
 if (sSame s.Head p&&(decide (s.Head.Judge=p.Judge)&&(decide (s.Head.Heirs=p.Heirs)&&decide (s.Head.Wait=p.Wait))))=true then (if (!s.Head.Frozen||decide (s.Head.Keys=p.Keys))=true then (if sBy s p.Judge=true then 1 else 7) else 6) else 6
def sCode (p:GHead) (s:GSigned):Int:=if sIsHead p=true then (if sIsHead s.Head=true then (if sNext p s.Head=true then (if decide (s.Head.Kind=1)=true then sOwner p s else if decide (s.Head.Kind=2)=true then sHeir p s else sJC p s) else 3) else 2) else 2
theorem Qez_n (p:GHead) (s:GSigned) (hp:mHead p≤1048576) (hs:mSigned s≤1048576) (k):call Qez [.agg (eHead p),.agg (eSigned s)] k=k [I (sOwner p s)]:=call_of (fun k=>by
 obtain ⟨q1,q2,q3⟩:=keys_le hp
 have e:=impl_isSignedBy_n s p.Keys hs q1
 simp only [Qez,un,cur0,e,unP_not,atP_zero,iteP_eq,rt_eq,scs_sc,scs_nil,flat_int,true_and,and_true]
 exact stepI fun _=>stepI fun _=>stepJ fun _=>Iff.rfl) k
theorem Qfd_n (p:GHead) (s:GSigned) (hp:mHead p≤1048576) (hs:mSigned s≤1048576) (k):call Qfd [.agg (eHead p),.agg (eSigned s)] k=k [I (sHeir p s)]:=call_of (fun k=>by
 obtain ⟨q1,q2,q3⟩:=keys_le hp
 obtain ⟨r1,r2,r3⟩:=keys_le (signed_le hs).1
 have e:=impl_isSignedBy_n s p.Heirs hs q2
 have e2:=Qfb_n s.Head.Keys p.Heirs r1
 simp only [Qfd,un,cur0,e,e2,Qeb_n,Qfc_n,unP_not,binP_add,binP_lss,atP_zero,iteP_eq,rt_eq,scs_sc,scs_nil,flat_int,true_and,and_true]
 exact stepI fun _=>stepI fun _=>stepI fun _=>stepI fun _=>stepJ fun _=>stepJ fun _=>stepJ fun _=>Iff.rfl) k
theorem Qfe_n (p:GHead) (s:GSigned) (hp:mHead p≤1048576) (hs:mSigned s≤1048576) (k):call Qfe [.agg (eHead p),.agg (eSigned s)] k=k [I (sJC p s)]:=call_of (fun k=>by
 obtain ⟨q1,q2,q3⟩:=keys_le hp
 obtain ⟨r1,r2,r3⟩:=keys_le (signed_le hs).1
 have e:=impl_isSignedBy_n s p.Judge hs q3
 have e2:=Qfb_n s.Head.Judge p.Judge r3
 have e3:=Qfb_n s.Head.Heirs p.Heirs r2
 have e4:=Qfb_n s.Head.Keys p.Keys r1
 simp only [Qfe,un,cur0,e,e2,e3,e4,Qeb_n,Qfc_n,unP_not,boolP_eql,binP_eql,beqI,atP_zero,iteP_eq,rt_eq,scs_sc,scs_nil,flat_int,true_and,and_true,sJC]
 generalize sNo p.Judge=b1
 generalize sSame s.Head p=b2
 generalize decide (s.Head.Judge=p.Judge)=b3
 generalize decide (s.Head.Heirs=p.Heirs)=b4
 generalize decide (s.Head.Wait=p.Wait)=b5
 generalize decide (s.Head.Keys=p.Keys)=b6
 generalize sBy s p.Judge=b7
 cases b1<;>cases b2<;>cases b3<;>cases b4<;>cases b5<;>cases b6<;>cases b7<;>cases s.Head.Frozen<;>cases p.Frozen<;>simp) k
theorem Qff_n (p:GHead) (s:GSigned) (hp:mHead p≤1048576) (hs:mSigned s≤1048576) (k):call Qff [.agg (eHead p),.agg (eSigned s)] k=k [I (sCode p s)]:=call_of (fun k=>by
 have e1:=Qee_n p hp
 have e2:=Qee_n s.Head (signed_le hs).1
 have e3:=Qey_n p s.Head hp
 have e4:=Qez_n p s hp hs
 have e5:=Qfd_n p s hp hs
 have e6:=Qfe_n p s hp hs
 simp only [Qff,un,cur0,e1,e2,e3,e4,e5,e6,unP_not,binP_eql,beqI,atP_zero,iteP_eq,rt_eq,scs_sc,scs_nil,flat_int,true_and,and_true]
 refine stepJ fun _=>stepJ fun _=>stepJ fun _=>?_
 by_cases h1:s.Head.Kind=1
 ·simp [h1]
 ·by_cases h2:s.Head.Kind=2<;>simp [h1,h2]) k
def sMay (p:GHead) (s:GSigned):Bool:=decide (sCode p s=1)
theorem Qfg_n (p:GHead) (s:GSigned) (hp:mHead p≤1048576) (hs:mSigned s≤1048576) (k):call Qfg [.agg (eHead p),.agg (eSigned s)] k=k [.bool (sMay p s)]:=call_of (fun k=>by
 have e:=Qff_n p s hp hs
 simp only [Qfg,un,cur0,e,binP_eql,beqI,atP_zero,rt_eq,scs_sc,scs_nil,flat_bool,true_and,and_true,sMay]) k
theorem Qcf_n (a b:GKeys) (h:mKeys a≤1048576) (k):call Qcf [.agg (eKeys a),.agg (eKeys b)] k=k [.bool (decide (a=b))]:=call_of (fun k=>by
 unfold mKeys at h
 obtain ⟨l,n⟩:=a
 obtain ⟨m,q⟩:=b
 have e:=Qce_n l m (by simp only at h;omega)
 simp only [Qcf,un,cur0,e,binP_eql,beqI,atP_zero,iteP_eq,rt_eq,scs_sc,scs_nil,flat_bool,true_and,and_true]
 by_cases h1:n=q<;>by_cases h2:l=m<;>simp [h1,h2]) k
theorem Qcd_n (p h:GHead) (k):call Qcd [.agg (eHead p),.agg (eHead h)] k=k [I (if p.Frozen=true then 4 else if h.Frozen=true then 6 else 1)]:=call_of (fun k=>by
 simp only [Qcd,un,cur0,iteP_eq,rt_eq,scs_sc,scs_nil,flat_int,true_and,and_true]
 exact stepI fun _=>stepI fun _=>Iff.rfl) k
def pHeir (p h:GHead):Int:=if p.Frozen=true then 4 else if sNo p.Heirs=true then 5 else if decide (h.Time<IntKind.i64.wrap (p.Until+p.Wait))=true then 5 else if h.Frozen=true then 6 else
 if decide (h.Keys=p.Heirs)=true then (if sSame h p=true then 1 else 6) else 6
theorem Qch_n (p h:GHead) (hp:mHead p≤1048576) (hh:mHead h≤1048576) (k):call Qch [.agg (eHead p),.agg (eHead h)] k=k [I (pHeir p h)]:=call_of (fun k=>by
 obtain ⟨r1,r2,r3⟩:=keys_le hh
 have e2:=Qcf_n h.Keys p.Heirs r1
 simp only [Qch,un,cur0,e2,Qbp_n,Qcg_n,unP_not,binP_add,binP_lss,atP_zero,iteP_eq,rt_eq,scs_sc,scs_nil,flat_int,true_and,and_true]
 exact stepI fun _=>stepI fun _=>stepI fun _=>stepI fun _=>stepJ fun _=>stepJ fun _=>Iff.rfl) k
def pJudge (p h:GHead):Int:=if sNo p.Judge=true then 5 else if decide (h.Frozen=p.Frozen)=true then 6 else
 if (sSame h p&&(decide (h.Judge=p.Judge)&&(decide (h.Heirs=p.Heirs)&&decide (h.Wait=p.Wait))))=true then (if (!h.Frozen||decide (h.Keys=p.Keys))=true then 1 else 6) else 6
theorem Qci_n (p h:GHead) (hp:mHead p≤1048576) (hh:mHead h≤1048576) (k):call Qci [.agg (eHead p),.agg (eHead h)] k=k [I (pJudge p h)]:=call_of (fun k=>by
 obtain ⟨r1,r2,r3⟩:=keys_le hh
 have e2:=Qcf_n h.Judge p.Judge r3
 have e3:=Qcf_n h.Heirs p.Heirs r2
 have e4:=Qcf_n h.Keys p.Keys r1
 have e5:(h.Wait != p.Wait)=!decide (h.Wait=p.Wait):=by rw [bne,beqI]
 simp only [Qci,un,cur0,e2,e3,e4,Qbp_n,Qcg_n,unP_not,boolP_eql,binP_neq,e5,atP_zero,iteP_eq,rt_eq,scs_sc,scs_nil,flat_int,true_and,and_true,pJudge]
 generalize sNo p.Judge=b1
 generalize sSame h p=b2
 generalize decide (h.Judge=p.Judge)=b3
 generalize decide (h.Heirs=p.Heirs)=b4
 generalize decide (h.Wait=p.Wait)=b5
 generalize decide (h.Keys=p.Keys)=b6
 cases b1<;>cases b2<;>cases b3<;>cases b4<;>cases b5<;>cases b6<;>cases h.Frozen<;>cases p.Frozen<;>simp) k
theorem code_owner (p:GHead) (s:GSigned):sOwner p s=if decide ((if p.Frozen=true then 4 else if s.Head.Frozen=true then 6 else 1:Int)=1)=true then (if sBy s p.Keys=true then 1 else 7) else (if p.Frozen=true then 4 else if s.Head.Frozen=true then 6 else 1):=by
 unfold sOwner
 cases p.Frozen<;>cases s.Head.Frozen<;>simp
theorem code_heir (p:GHead) (s:GSigned):sHeir p s=if decide (pHeir p s.Head=1)=true then (if sBy s p.Heirs=true then 1 else 7) else pHeir p s.Head:=by
 unfold sHeir pHeir
 cases p.Frozen<;>cases sNo p.Heirs<;>by_cases h1:s.Head.Time<IntKind.i64.wrap (p.Until+p.Wait)<;>cases s.Head.Frozen<;>by_cases h2:s.Head.Keys=p.Heirs<;>cases sSame s.Head p<;>simp [h1,h2]
theorem code_judge (p:GHead) (s:GSigned):sJC p s=if decide (pJudge p s.Head=1)=true then (if sBy s p.Judge=true then 1 else 7) else pJudge p s.Head:=by
 unfold sJC pJudge
 generalize (sSame s.Head p&&(decide (s.Head.Judge=p.Judge)&&(decide (s.Head.Heirs=p.Heirs)&&decide (s.Head.Wait=p.Wait))))=b2
 generalize (!s.Head.Frozen||decide (s.Head.Keys=p.Keys))=b3
 generalize decide (s.Head.Frozen=p.Frozen)=b4
 cases sNo p.Judge<;>cases b2<;>cases b3<;>cases b4<;>simp
theorem head_kind {h:GHead} (hh:sIsHead h=true):h.Kind=1∨h.Kind=2∨h.Kind=3:=by
 unfold sIsHead at hh
 simp only [Bool.and_eq_true,inR,decide_eq_true_eq] at hh
 omega
theorem codeStep {c:Int} {b:Bool} {k:List PV→Prop}:(if decide (c=1)=true then (if (!b)=true then k [I 7] else k [I c]) else k [I c])↔k [I (if decide (c=1)=true then (if b=true then 1 else 7) else c)]:=by
 by_cases h:c=1
 ·subst h;cases b<;>simp
 ·simp [h]
theorem Qcj_n (p:GHead) (s:GSigned) (hp:mHead p≤1048576) (hs:mSigned s≤1048576) (k):call Qcj [.agg (eHead p),.agg (eSigned s)] k=k [I (sCode p s)]:=call_of (fun k=>by
 obtain ⟨h1,h2,h3⟩:=signed_le hs
 obtain ⟨q1,q2,q3⟩:=keys_le hp
 have e1:=Qbq_n p hp
 have e2:=Qbq_n s.Head h1
 have e3:=Qcc_n p hp
 have e4:=Qcd_n p s.Head
 have e5:=Qch_n p s.Head hp h1
 have e6:=Qci_n p s.Head hp h1
 have e7:=Qbv_n s.Head h1
 have e8:=Qca_n p.Keys (headInts s.Head) s.Sigs q1 h3 h2
 have e9:=Qca_n p.Heirs (headInts s.Head) s.Sigs q2 h3 h2
 have e10:=Qca_n p.Judge (headInts s.Head) s.Sigs q3 h3 h2
 simp only [Qcj,un,cur0,e1,e2,e3,e4,e5,e6,e7,e8,e9,e10,unP_not,binP_eql,binP_neq,binP_add,binP_lss,bne,beqI,atP_zero,iteP_eq,rt_eq,scs_sc,scs_nil,flat_int,true_and,and_true,codeStep]
 refine stepJ fun _=>stepJ fun hh=>?_
 have hk:=head_kind hh
 have hc:∀{b1 b2 b3 b4:Bool} {P:Prop} {c:Int},(P↔k [I c])→((if (!b1)=true then k [I 3] else if (!b2)=true then k [I 3] else if (!b3)=true then k [I 3] else if (!b4)=true then k [I 3] else P)↔k [I (if (b1&&(b2&&(b3&&b4)))=true then c else 3)]):=by
  intro b1 b2 b3 b4 P c h
  cases b1<;>cases b2<;>cases b3<;>cases b4<;>simp [h]
 rw [show decide (s.Head.Time<p.Time)=!decide (p.Time≤s.Head.Time) by by_cases h:p.Time≤s.Head.Time<;>simp [h]<;>omega]
 refine hc ?_
 rw [code_owner,code_heir,code_judge]
 rcases hk with hk | hk | hk<;>simp [hk,sBy]
 all_goals exact Iff.rfl) k
theorem Qck_n (p:GHead) (s:GSigned) (hp:mHead p≤1048576) (hs:mSigned s≤1048576) (k):call Qck [.agg (eHead p),.agg (eSigned s)] k=k [.bool (sMay p s)]:=call_of (fun k=>by
 have e:=Qcj_n p s hp hs
 simp only [Qck,un,cur0,e,binP_eql,beqI,atP_zero,rt_eq,scs_sc,scs_nil,flat_bool,true_and,and_true,sMay]) k
def findX {α:Type} (p:Nat→α→Bool):Nat→List α→Int
 | _,[]=>-1
 | i,x::l=>if p i x=true then (i:Int) else findX p (i+1) l
theorem exitL_findX {α:Type} (p:Nat→α→Bool) (Q:Int→Prop):∀(i:Nat) (l:List α),exitL p (fun i _=>Q i) (Q (-1)) i l=Q (findX p i l)
 | _,[]=>rfl
 | i,x::l=>by
  rw [exitL,exitL_findX p Q (i+1) l,findX]
  split<;>rfl
theorem lp_findX {α:Type} {R:(List PV→Prop)→List PV→Prop} {v:List PV} {Q:Int→Prop} (l:List α) (V:Nat→List PV) (p:Nat→α→Bool) (hv:v=V 0)
 (h:∀i x,l[i]? = some x→i<l.length→∀K,R K (V i)↔if p i x=true then Q i else K (V (i+1))) (hf:∀K,R K (V l.length)↔Q (-1)):lp R v↔Q (findX p 0 l):=by
 have:=lp_exit l V p (fun i _=>Q i) hv (fun i x hx=>h i x hx (lt_of_get hx)) hf
 rwa [exitL_findX] at this
def wrongP (l:List GSigned) (i:Nat) (x:GSigned):Bool:=if i=0 then !sIsFirst x else match l[i-1]? with | some y=>!sMay y.Head x | none=>true
def sFW (l:List GSigned):Int:=findX (wrongP l) 0 l
theorem chain_le {l:List GSigned} (h:mSignedS l≤1048576):l.length≤1048576∧∀x∈l,mSigned x≤1048576:=by
 unfold mSignedS at h
 refine ⟨by omega,fun x hx=>?_⟩
 have:=sumN_mem (s:=mSigned) hx
 omega
theorem Qfh_n (l:List GSigned) (h:mSignedS l≤1048576) (k):call Qfh [.one (.list 17 (l.map eSigned))] k=k [I (sFW l)]:=call_of (fun k=>by
 obtain ⟨hl,hx0⟩:=chain_le h
 simp only [Qfh,lenP_eq,List.length_map,rt_eq,scs_sc,scs_nil,flat_int,true_and]
 refine lp_findX (Q:=fun i=>k [I i]) l (fun i=>[.list 17 (l.map eSigned),I 0,.list 17 (l.map eSigned),I l.length,I i]) (wrongP l) rfl (fun i x hx hi K=>?_) fun K=>?_
 ·have hm:=hx0 x (mem_get hx)
  by_cases h0:i=0
  ·subst h0
   have e:=Qew_n x hm
   simp [-getElem?_pos,Qfh_r0,hx,hi,e,wrongP,wr_eq]
  ·obtain ⟨y,hy⟩:∃y,l[i-1]? = some y:=⟨l[i-1],List.getElem?_eq_getElem (by omega)⟩
   have e:=Qfg_n y.Head x (signed_le (hx0 y (mem_get hy))).1 hm
   simp [-getElem?_pos,Qfh_r0,hx,hi,hy,h0,e,wrongP,show ¬(i:Int)=0 by omega,show 0<i by omega,wr_pred (show 0<i by omega) (show i<1000000000000000000 by omega),wr_succ (show i<1000000000000000000 by omega)]
 ·simp [Qfh_r0]) k
theorem Qcl_n (l:List GSigned) (h:mSignedS l≤1048576) (k):call Qcl [.one (.list 17 (l.map eSigned))] k=k [I (sFW l)]:=call_of (fun k=>by
 obtain ⟨hl,hx0⟩:=chain_le h
 simp only [Qcl,lenP_eq,List.length_map,rt_eq,scs_sc,scs_nil,flat_int,true_and]
 refine lp_findX (Q:=fun i=>k [I i]) l (fun i=>[.list 17 (l.map eSigned),I 0,I i]) (wrongP l) rfl (fun i x hx hi K=>?_) fun K=>?_
 ·have hm:=hx0 x (mem_get hx)
  by_cases h0:i=0
  ·subst h0
   have e:=Qcb_n x hm
   simp [-getElem?_pos,Qcl_r0,hx,hi,e,wrongP,wr_eq]
  ·obtain ⟨y,hy⟩:∃y,l[i-1]? = some y:=⟨l[i-1],List.getElem?_eq_getElem (by omega)⟩
   have e:=Qck_n y.Head x (signed_le (hx0 y (mem_get hy))).1 hm
   simp [-getElem?_pos,Qcl_r0,hx,hi,hy,h0,e,wrongP,show ¬(i:Int)=0 by omega,show 0<i by omega,wr_pred (show 0<i by omega) (show i<1000000000000000000 by omega),wr_succ (show i<1000000000000000000 by omega)]
 ·simp [Qcl_r0]) k
def sIsChain (l:List GSigned):Bool:=inR l.length 1 12&&decide (sFW l<0)
theorem Qfi_n (l:List GSigned) (h:mSignedS l≤1048576) (k):call Qfi [.one (.list 17 (l.map eSigned))] k=k [.bool (sIsChain l)]:=call_of (fun k=>by
 have e:=Qfh_n l h
 simp only [Qfi,lenP_eq,List.length_map,Qdv_n,e,binP_lss,atP_zero,iteP_eq,rt_eq,scs_sc,scs_nil,flat_bool,true_and,and_true]
 exact stepB fun _=>Iff.rfl) k
theorem Qcm_n (l:List GSigned) (h:mSignedS l≤1048576) (k):call Qcm [.one (.list 17 (l.map eSigned))] k=k [.bool (sIsChain l)]:=call_of (fun k=>by
 have e:=Qcl_n l h
 simp only [Qcm,lenP_eq,List.length_map,Qbn_n,e,binP_lss,atP_zero,iteP_eq,rt_eq,scs_sc,scs_nil,flat_bool,true_and,and_true]
 exact stepB fun _=>Iff.rfl) k
theorem chain_has {l:List GSigned} (h:sIsChain l=true):∃p,l[l.length-1]? = some p∧0<l.length:=by
 unfold sIsChain inR at h
 simp only [Bool.and_eq_true,decide_eq_true_eq] at h
 exact ⟨l[l.length-1],List.getElem?_eq_getElem (by omega),by omega⟩
def zHead:GHead:=⟨0,0,0,0,0,0,0,0,⟨[],0⟩,⟨[],0⟩,0,⟨[],0⟩,false⟩
def sLast (l:List GSigned):Option GHead:=if sIsChain l=true then (l[l.length-1]?).map (·.Head) else none
def oHead:Option GHead→List PV
 | some h=>eHead h++[.bool true]
 | none=>eHead zHead++[.bool false]
theorem Qcn_n (l:List GSigned) (h:mSignedS l≤1048576) (k):call Qcn [.one (.list 17 (l.map eSigned))] k=k (oHead (sLast l)):=call_of (fun k=>by
 obtain ⟨hl,hx0⟩:=chain_le h
 have e:=Qcm_n l h
 unfold sLast
 cases hc:sIsChain l with
 | false=>simp [Qcn,e,hc,oHead,zHead,ints]
 | true =>
  obtain ⟨p,hp,h0⟩:=chain_has hc
  have e3:=Qbc_n p.Head (signed_le (hx0 p (mem_get hp))).1
  simp [-getElem?_pos,Qcn,e,hc,e3,oHead,hp,wr_pred h0 (show l.length<1000000000000000000 by omega)]) k
def azB (x:UInt8):Bool:=(decide (97≤(x.toNat:Int))&&decide ((x.toNat:Int)≤122))||(decide (48≤(x.toNat:Int))&&decide ((x.toNat:Int)≤57))
def dashB (x:UInt8):Bool:=decide ((x.toNat:Int)=45)
def badL (n:Nat) (i:Nat) (x:UInt8):Bool:=!(azB x||(dashB x&&(decide (0<i)&&decide (i+1<n))))
def sLabel (s:ByteArray):Bool:=!anyI (badL s.data.toList.length) 0 s.data.toList&&inR s.size 1 8
theorem size_data (s:ByteArray):s.size=s.data.toList.length:=rfl
theorem Qfk_n (s:ByteArray) (h:s.size≤1048576) (k):call Qfk [.one (.str s)] k=k [.bool (sLabel s)]:=call_of (fun k=>by
 simp only [Qfk,lenS_eq,rt_eq,scs_sc,scs_nil,flat_bool,true_and,Qdv_n,atP_zero]
 refine (lp_anyI (P:=k [.bool false]) (fin:=k [.bool (inR s.size 1 8)]) s.data.toList (fun i=>[.str s,.bool false,I s.size,I i]) (badL s.data.toList.length) rfl (fun i x hx hi K=>?_) fun K=>?_).trans ?_
 ·have hw:=wr_succ (show i<1000000000000000000 by rw [size_data] at h;omega)
  have hl:IntKind.i64.wrap ((s.size:Int)-1)=(s.size:Int)-1:=wr_eq (by omega) (by omega)
  have hs:=size_data s
  simp only [Qfk_r0,un,cur0,binP_lss,binP_leq,binP_geq,binP_gtr,binP_eql,binP_add,binP_sub,lenS_eq,charP_eq,Int.toNat_natCast,hx,oP,iteP_eq,unP_not,beqI,hw,hl,show decide ((i:Int)<s.size)=true by rw [hs];simp;omega,if_true,show (0:Int)≤i by omega,true_and]
  unfold badL azB dashB
  have d1:decide ((i:Int)<(s.size:Int)-1)=decide (i+1<s.data.toList.length):=by apply decide_eq_decide.2;rw [hs];omega
  have d2:decide ((0:Int)<(i:Int))=decide (0<i):=by apply decide_eq_decide.2;omega
  rw [d1,d2]
  generalize decide (97≤(x.toNat:Int))=b1
  generalize decide ((x.toNat:Int)≤122)=b2
  generalize decide (48≤(x.toNat:Int))=b3
  generalize decide ((x.toNat:Int)≤57)=b4
  generalize decide ((x.toNat:Int)=45)=b5
  generalize decide (0<i)=b6
  generalize decide (i+1<s.data.toList.length)=b7
  cases b1<;>cases b2<;>cases b3<;>cases b4<;>cases b5<;>cases b6<;>cases b7<;>simp
 ·simp only [Qfk_r0,un,cur0,binP_lss,iteP_eq,show decide (((s.data.toList.length:Nat):Int)<s.size)=false by rw [size_data];simp,lenS_eq,Qdv_n,atP_zero]
  simp
 ·unfold sLabel
  cases anyI (badL s.data.toList.length) 0 s.data.toList<;>simp) k
theorem label_eq (L:List UInt8) (x y:UInt8) (hx:L[0]? = some x) (hy:L[L.length-1]? = some y):anyI (badL L.length) 0 L=(dashB x||(dashB y||L.any fun b=>!(azB b||dashB b))):=by
 rw [Bool.eq_iff_iff]
 constructor
 ·intro h
  rcases hd:(dashB x||(dashB y||L.any fun b=>!(azB b||dashB b))) with _ | _
  ·exfalso
   simp only [Bool.or_eq_false_iff] at hd
   obtain ⟨d1,d2,d3⟩:=hd
   have hn:anyI (badL L.length) 0 L=false:=by
    rw [anyI_false]
    intro j b hb
    have hj:=lt_of_get hb
    have h3:=List.any_eq_false.1 d3 b (List.mem_of_getElem? hb)
    unfold badL
    by_cases ha:azB b=true
    ·simp [ha]
    ·have hdb:dashB b=true:=by cases h:dashB b<;>simp [ha,h] at h3 ⊢
     have j0:j≠0:=by rintro rfl;rw [hx] at hb;injection hb with hb;subst hb;rw [d1] at hdb;cases hdb
     have j1:j≠L.length-1:=by rintro rfl;rw [hy] at hb;injection hb with hb;subst hb;rw [d2] at hdb;cases hdb
     simp [hdb,show 0<j by omega,show j+1<L.length by omega]
   rw [hn] at h;cases h
  ·rfl
 ·intro h
  cases hn:anyI (badL L.length) 0 L with
  | true=>rfl
  | false =>
   exfalso
   rw [anyI_false] at hn
   have hl:=lt_of_get hy
   have az_dash:∀b,dashB b=true→azB b=false:=by
    intro b hb
    unfold dashB at hb
    unfold azB
    simp only [decide_eq_true_eq] at hb
    simp [hb]
   simp only [Bool.or_eq_true] at h
   rcases h with h | h | h
   ·have:=hn 0 x hx
    simp [badL,h,az_dash x h] at this
   ·have:=hn _ y hy
    simp [badL,h,az_dash y h] at this
    omega
   ·obtain ⟨b,hb,h2⟩:=List.any_eq_true.1 h
    obtain ⟨j,hj⟩:=List.mem_iff_getElem?.1 hb
    have:=hn j b hj
    unfold badL at this
    simp only [Bool.not_eq_true',Bool.or_eq_false_iff] at h2
    simp [h2.1,h2.2] at this
theorem Qco_n (s:ByteArray) (h:s.size≤1048576) (k):call Qco [.one (.str s)] k=k [.bool (sLabel s)]:=call_of (fun k=>by
 have hs:=size_data s
 unfold sLabel
 cases hr:inR s.size 1 8 with
 | false=>simp [Qco,Qbn_n,hr]
 | true =>
  have h1:1≤s.size:=by unfold inR at hr;simp at hr;omega
  obtain ⟨x,hx⟩:∃x,s.data.toList[0]? = some x:=⟨s.data.toList[0]'(by omega),List.getElem?_eq_getElem (by omega)⟩
  obtain ⟨y,hy⟩:∃y,s.data.toList[s.data.toList.length-1]? = some y:=⟨_,List.getElem?_eq_getElem (by omega)⟩
  have hl:IntKind.i64.wrap ((s.size:Int)-1)=((s.size-1:Nat):Int):=by rw [wr_eq (by omega) (by omega)];omega
  have hy':s.data.toList[s.size-1]? = some y:=hy
  rw [label_eq _ x y hx hy]
  simp only [Qco,lenS_eq,Qbn_n,hr,unP_not,atP_zero,iteP_eq,binP_sub,hl,binP_eql,beqI,charP_eq,Int.toNat_natCast,show ((0:Int)).toNat=0 from rfl,hx,hy',oP,rt_eq,scs_sc,scs_nil,flat_bool,true_and,Bool.not_true,Bool.false_eq_true,if_false,show (0:Int)≤0 by omega,show (0:Int)≤((s.size-1:Nat):Int) by omega]
  rw [show decide ((x.toNat:Int)=45)=dashB x from rfl,show decide ((y.toNat:Int)=45)=dashB y from rfl]
  have key:lp (fun L w=>Qco_r0 w L (k [PV.bool false]) fun q29 q30 q31=>k [PV.bool true]) [PV.str s,PV.bool false,I 0]↔k [.bool (!(s.data.toList.any fun b=>!(azB b||dashB b)))]:=by
   refine (lp_any (P:=k [.bool false]) (fin:=k [.bool true]) s.data.toList (fun i=>[.str s,.bool false,I i]) (fun b=>!(azB b||dashB b)) rfl (fun i x hx hi K=>?_) fun K=>?_).trans ?_
   ·have hw:=wr_succ (show i<1000000000000000000 by omega)
    simp only [Qco_r0,un,cur0,binP_lss,binP_leq,binP_geq,binP_gtr,binP_eql,binP_neq,binP_add,lenS_eq,charP_eq,Int.toNat_natCast,hx,oP,iteP_eq,unP_not,bne,beqI,hw,show decide ((i:Int)<s.size)=true by rw [hs];simp;omega,if_true,show (0:Int)≤i by omega,true_and]
    unfold azB dashB
    rw [show decide ((x.toNat:Int)<97)=!decide (97≤(x.toNat:Int)) by by_cases h:97≤(x.toNat:Int)<;>simp [h]<;>omega,
     show decide ((x.toNat:Int)<48)=!decide (48≤(x.toNat:Int)) by by_cases h:48≤(x.toNat:Int)<;>simp [h]<;>omega,
     show decide (122<(x.toNat:Int))=!decide ((x.toNat:Int)≤122) by by_cases h:(x.toNat:Int)≤122<;>simp [h]<;>omega,
     show decide (57<(x.toNat:Int))=!decide ((x.toNat:Int)≤57) by by_cases h:(x.toNat:Int)≤57<;>simp [h]<;>omega]
    generalize decide (97≤(x.toNat:Int))=b1
    generalize decide ((x.toNat:Int)≤122)=b2
    generalize decide (48≤(x.toNat:Int))=b3
    generalize decide ((x.toNat:Int)≤57)=b4
    generalize decide ((x.toNat:Int)=45)=b5
    cases b1<;>cases b2<;>cases b3<;>cases b4<;>cases b5<;>simp
   ·simp only [Qco_r0,un,cur0,binP_lss,lenS_eq,iteP_eq,show decide (((s.data.toList.length:Nat):Int)<s.size)=false by rw [size_data];simp]
    simp
   ·cases (s.data.toList.any fun b=>!(azB b||dashB b))<;>simp
  rw [propext key]
  cases dashB x<;>cases dashB y<;>simp) k
def sIsPath (p:List ByteArray):Bool:=inR p.length 1 4&&!(p.any fun s=>!sLabel s)
theorem path_le {p:List ByteArray} (h:p.length+sumN ByteArray.size p≤1048576):p.length≤1048576∧∀s∈p,s.size≤1048576:=by
 refine ⟨by omega,fun s hs=>?_⟩
 have:=sumN_mem (s:=ByteArray.size) hs
 omega
theorem Qfo_n (p:List ByteArray) (h:p.length+sumN ByteArray.size p≤1048576) (k):call Qfo [.one (strs p)] k=k [.bool (sIsPath p)]:=call_of (fun k=>by
 obtain ⟨hl,hs⟩:=path_le h
 have e:∀k,call Qfm [.one (strs p),.fn 282 []] k=k [I (idx (fun s=>!sLabel s) p)]:=call_of (fun k=>by
  simp [Qfm]
  refine lp_find (Q:=fun i=>k [I i]) p (fun i=>[strs p,I 0,I p.length,I i]) (fun s=>!sLabel s) rfl (fun i x hx hi K=>?_) fun K=>?_
  ·have e1:∀k,call Qfl [.one (.str x)] k=k [.bool (!sLabel x)]:=call_of (fun k=>by simp [Qfl,Qfk_n x (hs x (mem_get hx))])
   simp [-getElem?_pos,Qfm_r0,hx,hi,e1,wr_succ (show i<1000000000000000000 by omega)]
  ·simp [Qfm_r0])
 have e2:∀k,call Qfn [.one (strs p),.fn 282 []] k=k [.bool (p.any fun s=>!sLabel s)]:=call_of (fun k=>by simp [Qfn,e,idx_any])
 simp only [Qfo,lenP_eq,List.length_map,Qdv_n,e2,unP_not,atP_zero,iteP_eq,rt_eq,scs_sc,scs_nil,flat_bool,true_and]
 exact stepB fun _=>Iff.rfl) k
theorem Qcp_n (p:List ByteArray) (h:p.length+sumN ByteArray.size p≤1048576) (k):call Qcp [.one (strs p)] k=k [.bool (sIsPath p)]:=call_of (fun k=>by
 obtain ⟨hl,hs⟩:=path_le h
 simp only [Qcp,rt_eq,scs_sc,scs_nil,flat_bool,true_and,lenP_eq,List.length_map,Qbn_n,atP_zero]
 refine (lp_any (P:=k [.bool false]) (fin:=k [.bool (inR p.length 1 4)]) p (fun i=>[strs p,.bool false,I i]) (fun s=>!sLabel s) rfl (fun i x hx hi K=>?_) fun K=>?_).trans ?_
 ·have e:=Qco_n x (hs x (mem_get hx))
  simp [-getElem?_pos,Qcp_r0,hx,hi,e,wr_succ (show i<1000000000000000000 by omega)]
 ·simp [Qcp_r0,Qbn_n]
 ·unfold sIsPath
  cases (p.any fun s=>!sLabel s)<;>simp) k
def sIsEntry (e:GEntry):Bool:=sLabel e.Label&&(if decide (e.Kind=1)=true then inR e.Value 0 999999&&decide (e.Path.length=0) else if decide (e.Kind=2)=true then inR e.Value 0 2147483646&&decide (e.Path.length=0) else if decide (e.Kind=3)=true then inR e.Value 0 2147483646&&sIsPath e.Path else false)
theorem entry_le {e:GEntry} (h:mEntry e≤1048576):e.Label.size≤1048576∧e.Path.length+sumN ByteArray.size e.Path≤1048576:=by unfold mEntry at h;omega
theorem len0 (n:Nat):((n:Int)==0)=decide (n=0):=by rw [beqI];apply decide_eq_decide.2;omega
theorem Qdw_n (x:Int) (k):call Qdw [.one (I x)] k=k [.bool (inR x 0 2147483646)]:=call_of (fun k=>by simp [Qdw,Qdv_n]) k
theorem Qfp_n (e:GEntry) (h:mEntry e≤1048576) (k):call Qfp [.agg (eEntry e)] k=k [.bool (sIsEntry e)]:=call_of (fun k=>by
 obtain ⟨h1,h2⟩:=entry_le h
 have e1:=Qfk_n e.Label h1
 have e2:=Qfo_n e.Path h2
 simp only [Qfp,un,cur0,e1,e2,Qdv_n,Qdw_n,lenP_eq,List.length_map,binP_eql,len0,beqI,unP_not,atP_zero,iteP_eq,rt_eq,scs_sc,scs_nil,flat_bool,true_and,sIsEntry]
 refine stepN fun _=>?_
 cases decide (e.Kind=1)<;>cases decide (e.Kind=2)<;>cases decide (e.Kind=3)<;>cases inR e.Value 0 999999<;>cases inR e.Value 0 2147483646<;>simp) k
theorem Qcq_n (e:GEntry) (h:mEntry e≤1048576) (k):call Qcq [.agg (eEntry e)] k=k [.bool (sIsEntry e)]:=call_of (fun k=>by
 obtain ⟨h1,h2⟩:=entry_le h
 have e1:=Qco_n e.Label h1
 have e2:=Qcp_n e.Path h2
 simp only [Qcq,un,cur0,e1,e2,Qbn_n,lenP_eq,List.length_map,binP_eql,len0,beqI,unP_not,atP_zero,iteP_eq,rt_eq,scs_sc,scs_nil,flat_bool,true_and,sIsEntry]
 cases sLabel e.Label<;>cases decide (e.Kind=1)<;>cases decide (e.Kind=2)<;>cases decide (e.Kind=3)<;>cases inR e.Value 0 999999<;>cases inR e.Value 0 2147483646<;>simp) k
theorem cmp_range:∀(a b:List UInt8),Go.Lib.compareBytes a b=-1∨Go.Lib.compareBytes a b=0∨Go.Lib.compareBytes a b=1
 | [],[]=>.inr (.inl rfl)
 | [],_::_=>.inl rfl
 | _::_,[]=>.inr (.inr rfl)
 | x::a,y::b=>by
  unfold Go.Lib.compareBytes
  split
  ·exact .inl rfl
  ·split
   ·exact .inr (.inr rfl)
   ·exact cmp_range a b
theorem cmp_less:∀(a b:List UInt8),Op.bytesLess a b=decide (Go.Lib.compareBytes a b=-1)
 | [],[]=>by simp [Op.bytesLess,Go.Lib.compareBytes]
 | [],_::_=>by simp [Op.bytesLess,Go.Lib.compareBytes]
 | _::_,[]=>by simp [Op.bytesLess,Go.Lib.compareBytes]
 | x::a,y::b=>by
  have ih:=cmp_less a b
  unfold Op.bytesLess Go.Lib.compareBytes
  by_cases h1:x<y
  ·simp [h1]
  ·by_cases h2:y<x
   ·have:¬x=y:=by rintro rfl;exact UInt8.lt_irrefl _ h2
    simp [h1,h2,this]
   ·have:x=y:=by
     apply UInt8.toNat_inj.1
     rw [UInt8.lt_iff_toNat_lt] at h1 h2
     omega
    simp [h1,h2,this,ih]
theorem cmp_eq0:∀(a b:List UInt8),(a==b)=decide (Go.Lib.compareBytes a b=0)
 | [],[]=>by simp [Go.Lib.compareBytes]
 | [],_::_=>by simp [Go.Lib.compareBytes]
 | _::_,[]=>by simp [Go.Lib.compareBytes]
 | x::a,y::b=>by
  have ih:=cmp_eq0 a b
  unfold Go.Lib.compareBytes
  rw [List.cons_beq_cons]
  by_cases h1:x<y
  ·have:¬x=y:=by rintro rfl;exact UInt8.lt_irrefl _ h1
   simp [h1,this]
  ·by_cases h2:y<x
   ·have:¬x=y:=by rintro rfl;exact UInt8.lt_irrefl _ h2
    simp [h1,h2,this]
   ·have:x=y:=by
     apply UInt8.toNat_inj.1
     rw [UInt8.lt_iff_toNat_lt] at h1 h2
     omega
    simp [h1,h2,this,ih]
def cmpS (s t:ByteArray):Int:=Go.Lib.compareBytes s.data.toList t.data.toList
theorem Qfs_n (s t:ByteArray) (k):call Qfs [.one (.str s),.one (.str t)] k=k [I (cmpS s t)]:=call_of (fun k=>by
 have e:∀k,call Qkp [.one (.str s),.one (.str t)] k=k [I (cmpS s t)]:=call_of (fun k=>by simp [Qkp,cmpS])
 have e2:∀k,call Qfr [.one (.str s),.one (.str t)] k=k [I (cmpS s t)]:=call_of (fun k=>by simp [Qfr,e])
 simp [Qfs,e2]) k
theorem Qcr_n (s t:ByteArray) (k):call Qcr [.one (.str s),.one (.str t)] k=k [I (cmpS s t)]:=call_of (fun k=>by
 simp only [Qcr,binP,toList_data,cmp_less,cmp_eq0,iteP_eq,rt_eq,scs_sc,scs_nil,flat_int,true_and]
 unfold cmpS
 rcases cmp_range s.data.toList t.data.toList with h | h | h<;>simp [h]) k
def pathInts (p:List ByteArray):List Int:=p.flatMap sLabelInts
def entryInts (e:GEntry):List Int:=sLabelInts e.Label++([e.Kind,e.Value,(e.Path.length:Int)]++pathInts e.Path)
theorem pathInts_len:∀(p:List ByteArray),(pathInts p).length=p.length+sumN ByteArray.size p
 | []=>rfl
 | s::p=>by
  have:=pathInts_len p
  unfold pathInts at this ⊢
  simp only [List.flatMap_cons,List.length_append,List.length_cons,sLabelInts_len,sumN,this]
  omega
theorem entryInts_len (e:GEntry):(entryInts e).length=mEntry e+4:=by
 simp only [entryInts,List.length_append,sLabelInts_len,pathInts_len,List.length_cons,List.length_nil,mEntry]
 omega
theorem Qfw_n (e:GEntry) (h:mEntry e≤1048576) (k):call Qfw [.agg (eEntry e)] k=k [ints (entryInts e)]:=call_of (fun k=>by
 obtain ⟨h1,h2⟩:=entry_le h
 obtain ⟨hl,hs⟩:=path_le h2
 have e1:=Qfv_n e.Label (show e.Label.size<1000000000 by omega)
 have e2:=sLabelInts_len e.Label
 simp only [Qfw,un,cur0,e1,lenP_eq,List.length_map,atP_zero,fc_int,true_and,show (3:Nat)≤16777216 by omega,ints,catP,e2,List.length_cons,List.length_nil,show e.Label.size+1+(0+1+1+1)<1073741824 by omega,rt_eq,scs_own,scs_nil]
 refine lp_list e.Path (fun i=>[strs e.Path,I e.Path.length,I i,.list 1 [],ints (sLabelInts e.Label++([e.Kind,e.Value,(e.Path.length:Int)]++pathInts (e.Path.take i)))]) (by simp [ints,pathInts]) (fun i x hx hi K=>?_) fun K=>?_
 ·have e3:=Qfv_n x (show x.size<1000000000 by have:=hs x (mem_get hx);omega)
  have e4:pathInts (e.Path.take (i+1))=pathInts (e.Path.take i)++sLabelInts x:=by
   unfold pathInts;rw [take_snoc hx,List.flatMap_append];simp
  have e5:(pathInts (e.Path.take i)).length≤2097152:=by
   rw [pathInts_len]
   have:=sumN_take_le ByteArray.size e.Path i
   have:(e.Path.take i).length≤e.Path.length:=by simp;omega
   omega
  have e6:=sLabelInts_len x
  have e7:=hs x (mem_get hx)
  rw [e4]
  generalize pathInts (e.Path.take i)=A at e5
  simp [-getElem?_pos,Qfw_r0,hx,hi,e3,ints,catP,e2,e6,wr_succ (show i<1000000000000000000 by omega)]
  try (intros;omega)
 ·simp [Qfw_r0,entryInts,ints]) k
theorem Qfx_n (e:GEntry) (h:mEntry e≤1048576) (k):call Qfx [.agg (eEntry e)] k=k [I (sHash (227::entryInts e))]:=call_of (fun k=>by
 have hl:=entryInts_len e
 have e1:=Qfw_n e h
 have e2:=Qeh_n (227::entryInts e) (by simp;omega)
 have e3:PV.list 1 ([I 227]::(entryInts e).map rI)=ints (227::entryInts e):=by simp [ints]
 simp [Qfx,fc_int,e1,catP,show 1+(entryInts e).length<1073741824 by omega]
 rw [e3,e2]
 simp
 try (intros;omega)) k
theorem Qcv_n (e:GEntry) (h:mEntry e≤1048576) (k):call Qcv [.agg (eEntry e)] k=k [ints (entryInts e)]:=call_of (fun k=>by
 obtain ⟨h1,h2⟩:=entry_le h
 obtain ⟨hl,hs⟩:=path_le h2
 have e1:=Qcu_n e.Label (show e.Label.size<1000000000 by omega)
 have e2:=sLabelInts_len e.Label
 simp only [Qcv,un,cur0,e1,lenP_eq,List.length_map,atP_zero,fc_int,true_and,show (3:Nat)≤16777216 by omega,ints,catP,e2,List.length_cons,List.length_nil,show e.Label.size+1+(0+1+1+1)<1073741824 by omega,rt_eq,scs_own,scs_nil]
 refine lp_list e.Path (fun i=>[I i,.str e.Label,I e.Kind,I e.Value,strs e.Path,.list 1 [],ints (sLabelInts e.Label++([e.Kind,e.Value,(e.Path.length:Int)]++pathInts (e.Path.take i)))]) (by simp [ints,pathInts]) (fun i x hx hi K=>?_) fun K=>?_
 ·have e3:=Qcu_n x (show x.size<1000000000 by have:=hs x (mem_get hx);omega)
  have e4:pathInts (e.Path.take (i+1))=pathInts (e.Path.take i)++sLabelInts x:=by
   unfold pathInts;rw [take_snoc hx,List.flatMap_append];simp
  have e5:(pathInts (e.Path.take i)).length≤2097152:=by
   rw [pathInts_len]
   have:=sumN_take_le ByteArray.size e.Path i
   have:(e.Path.take i).length≤e.Path.length:=by simp;omega
   omega
  have e6:=sLabelInts_len x
  have e7:=hs x (mem_get hx)
  rw [e4]
  generalize pathInts (e.Path.take i)=A at e5
  simp [-getElem?_pos,Qcv_r0,hx,hi,e3,ints,catP,e2,e6,wr_succ (show i<1000000000000000000 by omega)]
  try (intros;omega)
 ·simp [Qcv_r0,entryInts,ints]) k
theorem Qcw_n (e:GEntry) (h:mEntry e≤1048576) (k):call Qcw [.agg (eEntry e)] k=k [I (sHash (227::entryInts e))]:=call_of (fun k=>by
 have hl:=entryInts_len e
 have e1:=Qcv_n e h
 have e2:=Qbt_n (227::entryInts e) (by simp;omega)
 have e3:PV.list 1 ([I 227]::(entryInts e).map rI)=ints (227::entryInts e):=by simp [ints]
 simp [Qcw,fc_int,e1,catP,show 1+(entryInts e).length<1073741824 by omega]
 rw [e3,e2]
 simp
 try (intros;omega)) k
def sLeaf (e:GEntry):Int:=sHash (227::entryInts e)
theorem Qfy_n (l:List GEntry) (h:mEntryS l≤1048576) (k):call Qfy [.one (.list 4 (l.map eEntry))] k=k [ints (l.map sLeaf)]:=call_of (fun k=>by
 obtain ⟨hl,hx0⟩:=entries_le h
 simp only [Qfy,lenP_eq,List.length_map,rt_eq,scs_own,scs_nil,true_and,show (0:Nat)≤16777216 by omega]
 refine lp_list l (fun i=>[.list 4 (l.map eEntry),I l.length,I i,.list 1 [],ints ((l.take i).map sLeaf)]) (by simp [ints]) (fun i x hx hi K=>?_) fun K=>?_
 ·have e:=Qfx_n x (hx0 x (mem_get hx))
  simp [-getElem?_pos,Qfy_r0,hx,hi,e,fc_int,ints,catP,take_snoc hx,show i<1073741823 by omega,show min i l.length<1073741823 by omega,sLeaf,wr_succ (show i<1000000000000000000 by omega)]
  try (intros;omega)
 ·simp [Qfy_r0]) k
theorem Qcx_n (l:List GEntry) (h:mEntryS l≤1048576) (k):call Qcx [.one (.list 4 (l.map eEntry))] k=k [ints (l.map sLeaf)]:=call_of (fun k=>by
 obtain ⟨hl,hx0⟩:=entries_le h
 simp only [Qcx,lenP_eq,List.length_map,rt_eq,scs_own,scs_nil,true_and,show (0:Nat)≤16777216 by omega]
 refine lp_list l (fun i=>[.list 4 (l.map eEntry),I i,.list 1 [],ints ((l.take i).map sLeaf)]) (by simp [ints]) (fun i x hx hi K=>?_) fun K=>?_
 ·have e:=Qcw_n x (hx0 x (mem_get hx))
  simp [-getElem?_pos,Qcx_r0,hx,hi,e,fc_int,ints,catP,take_snoc hx,show i<1073741823 by omega,show min i l.length<1073741823 by omega,sLeaf,wr_succ (show i<1000000000000000000 by omega)]
  try (intros;omega)
 ·simp [Qcx_r0]) k
def sNode (a b:Int):Int:=sHash [229,a,b]
def sAbove:List Int→List Int
 | a::b::l=>sNode a b::sAbove l
 | [a]=>[a]
 | []=>[]
theorem sAbove_app:∀(n:Nat) (m r:List Int),m.length=2*n→sAbove (m++r)=sAbove m++sAbove r
 | 0,[],r,_=>rfl
 | 0,_::_,r,h=>by simp at h
 | n+1,[],r,h=>by simp at h
 | n+1,[a],r,h=>by simp at h;omega
 | n+1,a::b::m,r,h=>by
  have:=sAbove_app n m r (by simp at h;omega)
  simp [sAbove,this]
theorem sAbove_len:∀(l:List Int),(sAbove l).length≤l.length∧(2≤l.length→(sAbove l).length<l.length)∧(1≤l.length→1≤(sAbove l).length)
 | []=>by simp [sAbove]
 | [a]=>by simp [sAbove]
 | a::b::l=>by
  have:=sAbove_len l
  simp only [sAbove,List.length_cons]
  omega
def sTopN:Nat→List Int→Int
 | 0,_=>0
 | n+1,l=>if 1<l.length then sTopN n (sAbove l) else l.headD 0
def sTop (l:List Int):Int:=if l.length=0 then sHash [229] else sTopN (l.length+1) l
def sRoot (l:List GEntry):Int:=sHash [231,(l.length:Int),sTop (l.map sLeaf)]
theorem Qga_n (a b:Int) (k):call Qga [.one (I a),.one (I b)] k=k [I (sNode a b)]:=call_of (fun k=>by
 have eh:∀(l:List Int),l.length<1000→∀k,call Qfz [.one (ints l)] k=k [I (sHash l)]:=fun l hl=>call_of (fun k=>by simp [Qfz,Qeh_n l (by omega)])
 have e:=eh [229,a,b] (by simp)
 rw [show ints [229,a,b]=PV.list 1 [[I 229],[I a],[I b]] from rfl] at e
 simp [Qga,fc_int,e,sNode]) k
theorem Qgb_n (l:List Int) (h:l.length≤1048576) (k):call Qgb [.one (ints l)] k=k [ints (sAbove l)]:=call_of (fun k=>by
 simp only [Qgb,rt_eq,scs_own,scs_nil,true_and,show (0:Nat)≤16777216 by omega]
 refine lp_nat ((l.length+1) / 2) (fun j=>[ints l,I ((2*j:Nat):Int),.list 1 [],ints (sAbove (l.take (2*j)))]) (by simp [ints,sAbove]) (fun j hj K=>?_) fun K=>?_
 ·have hlt:2*j<l.length:=by omega
  obtain ⟨x,hx⟩:∃x,l[2*j]? = some x:=⟨l[2*j],List.getElem?_eq_getElem hlt⟩
  have t1:l.take (2*j+1)=l.take (2*j)++[x]:=take_snoc hx
  have hll:(l.take (2*j)).length=2*j:=by simp;omega
  have hA:(sAbove (l.take (2*j))).length≤1048576:=by have:=(sAbove_len (l.take (2*j))).1;omega
  have w1:IntKind.i64.wrap (((2*j:Nat):Int)+1)=((2*j+1:Nat):Int):=by rw [wr_eq (by omega) (by omega)];omega
  have w2:IntKind.i64.wrap (((2*j:Nat):Int)+2)=((2*(j+1):Nat):Int):=by rw [wr_eq (by omega) (by omega)];omega
  by_cases h2:2*j+1<l.length
  ·obtain ⟨y,hy⟩:∃y,l[2*j+1]? = some y:=⟨l[2*j+1],List.getElem?_eq_getElem h2⟩
   have t2:l.take (2*(j+1))=l.take (2*j)++[x,y]:=by
    rw [show 2*(j+1)=2*j+1+1 by omega,take_snoc hy,t1];simp
   rw [t2,sAbove_app j _ _ hll]
   generalize sAbove (l.take (2*j))=A at hA
   simp only [Qgb_r0,un,cur0,binP_lss,binP_add,lenP_eq,ints,List.length_map,iteP_eq,w1,w2,show decide (((2*j:Nat):Int)<(l.length:Int))=true by simp;omega,show decide (((2*j+1:Nat):Int)<(l.length:Int))=true by simp;omega,if_true,elemP,Int.toNat_natCast,List.getElem?_map,hx,hy,Option.map_some,show (0:Int)≤((2*j:Nat):Int) by omega,show (0:Int)≤((2*j+1:Nat):Int) by omega,true_and,atP_zero,Qga_n,fc_int,catP,List.length_cons,List.length_nil,show A.length+(0+1)<1073741824 by omega]
   simp [sAbove]
  ·have t2:l.take (2*(j+1))=l.take (2*j)++[x]:=by
    rw [←t1,List.take_of_length_le (by omega),List.take_of_length_le (by omega)]
   rw [t2,sAbove_app j _ _ hll]
   generalize sAbove (l.take (2*j))=A at hA
   simp only [Qgb_r0,un,cur0,binP_lss,binP_add,lenP_eq,ints,List.length_map,iteP_eq,w1,w2,show decide (((2*j:Nat):Int)<(l.length:Int))=true by simp;omega,show decide (((2*j+1:Nat):Int)<(l.length:Int))=false by simp;omega,if_true,Bool.false_eq_true,if_false,elemP,Int.toNat_natCast,List.getElem?_map,hx,Option.map_some,show (0:Int)≤((2*j:Nat):Int) by omega,true_and,atP_zero,fc_int,catP,List.length_cons,List.length_nil,show A.length+(0+1)<1073741824 by omega]
   simp [sAbove]
 ·have:l.take (2*((l.length+1) / 2))=l:=List.take_of_length_le (by omega)
  rw [this]
  simp only [Qgb_r0,un,cur0,binP_lss,lenP_eq,ints,List.length_map,iteP_eq,show decide (((2*((l.length+1) / 2):Nat):Int)<(l.length:Int))=false by simp;omega]
  simp) k
theorem Qgc_lp (k:List PV→Prop):∀(n:Nat) (l:List Int),l.length<n→1≤l.length→l.length≤1048576→(lp (fun L w=>Qgc_r0 w L (fun q3 q4=>elemP 1 q3 (I 0) fun c5=>rt [.sc] [atP c5 0] k)) [ints l,I 0]↔k [I (sTopN n l)])
 | 0,l,h,_,_=>by omega
 | n+1,l,h,h1,h2=>by
  unfold sTopN
  by_cases hl:1<l.length
  ·have ha:=sAbove_len l
   have ih:=Qgc_lp k n (sAbove l) (by omega) (by omega) (by omega)
   rw [if_pos hl]
   refine (lp_step fun K=>?_).trans ih
   have e:=Qgb_n l h2
   simp [Qgc_r0,show (1:Int)<l.length by omega,e]
  ·rw [if_neg hl]
   refine itP_mono_end fun K=>?_
   match l,h1,hl with
   | [a],_,_=>simp [Qgc_r0,ints,elemP]
   | _::_::_,_,hl=>simp at hl
theorem Qgc_n (l:List Int) (h:l.length≤1048576) (k):call Qgc [.one (ints l)] k=k [I (sTop l)]:=call_of (fun k=>by
 have eh:∀(l:List Int),l.length<1000→∀k,call Qfz [.one (ints l)] k=k [I (sHash l)]:=fun l hl=>call_of (fun k=>by simp [Qfz,Qeh_n l (by omega)])
 unfold sTop
 by_cases h0:l.length=0
 ·have:l=[]:=List.eq_nil_of_length_eq_zero h0
  subst this
  have e:=eh [229] (by simp)
  rw [show ints [229]=PV.list 1 [[I 229]] from rfl] at e
  simp [Qgc,fc_int,e]
 ·rw [if_neg h0]
  have e:=Qgc_lp k (l.length+1) l (by omega) (by omega) h
  rw [←e]
  simp [Qgc,show ¬(l.length:Int)=0 by omega,show ¬l=[] by (rintro rfl;simp at h0)]) k
theorem Qgd_n (a b:Int) (k):call Qgd [.one (I a),.one (I b)] k=k [I (sHash [231,a,b])]:=call_of (fun k=>by
 have eh:∀(l:List Int),l.length<1000→∀k,call Qfz [.one (ints l)] k=k [I (sHash l)]:=fun l hl=>call_of (fun k=>by simp [Qfz,Qeh_n l (by omega)])
 have e:=eh [231,a,b] (by simp)
 rw [show ints [231,a,b]=PV.list 1 [[I 231],[I a],[I b]] from rfl] at e
 simp [Qgd,fc_int,e]) k
theorem Qge_n (l:List GEntry) (h:mEntryS l≤1048576) (k):call Qge [.one (.list 4 (l.map eEntry))] k=k [I (sRoot l)]:=call_of (fun k=>by
 have hl:=(entries_le h).1
 have e1:=Qfy_n l h
 have e2:=Qgc_n (l.map sLeaf) (by simpa using hl)
 simp [Qge,e1,e2,Qgd_n,sRoot]) k
theorem Qcy_n (a b:Int) (k):call Qcy [.one (I a),.one (I b)] k=k [I (sNode a b)]:=call_of (fun k=>by
 have eh:∀(l:List Int),l.length<1000→∀k,call Qbt [.one (ints l)] k=k [I (sHash l)]:=fun l hl=>Qbt_n l (by omega)
 have e:=eh [229,a,b] (by simp)
 rw [show ints [229,a,b]=PV.list 1 [[I 229],[I a],[I b]] from rfl] at e
 simp [Qcy,fc_int,e,sNode]) k
theorem Qcz_n (l:List Int) (h:l.length≤1048576) (k):call Qcz [.one (ints l)] k=k [ints (sAbove l)]:=call_of (fun k=>by
 simp only [Qcz,rt_eq,scs_own,scs_nil,true_and,show (0:Nat)≤16777216 by omega]
 refine lp_nat ((l.length+1) / 2) (fun j=>[ints l,I ((2*j:Nat):Int),.list 1 [],ints (sAbove (l.take (2*j)))]) (by simp [ints,sAbove]) (fun j hj K=>?_) fun K=>?_
 ·have hlt:2*j<l.length:=by omega
  obtain ⟨x,hx⟩:∃x,l[2*j]? = some x:=⟨l[2*j],List.getElem?_eq_getElem hlt⟩
  have t1:l.take (2*j+1)=l.take (2*j)++[x]:=take_snoc hx
  have hll:(l.take (2*j)).length=2*j:=by simp;omega
  have hA:(sAbove (l.take (2*j))).length≤1048576:=by have:=(sAbove_len (l.take (2*j))).1;omega
  have w1:IntKind.i64.wrap (((2*j:Nat):Int)+1)=((2*j+1:Nat):Int):=by rw [wr_eq (by omega) (by omega)];omega
  have w2:IntKind.i64.wrap (((2*j:Nat):Int)+2)=((2*(j+1):Nat):Int):=by rw [wr_eq (by omega) (by omega)];omega
  by_cases h2:2*j+1<l.length
  ·obtain ⟨y,hy⟩:∃y,l[2*j+1]? = some y:=⟨l[2*j+1],List.getElem?_eq_getElem h2⟩
   have t2:l.take (2*(j+1))=l.take (2*j)++[x,y]:=by
    rw [show 2*(j+1)=2*j+1+1 by omega,take_snoc hy,t1];simp
   rw [t2,sAbove_app j _ _ hll]
   generalize sAbove (l.take (2*j))=A at hA
   simp only [Qcz_r0,un,cur0,binP_lss,binP_add,lenP_eq,ints,List.length_map,iteP_eq,w1,w2,show decide (((2*j:Nat):Int)<(l.length:Int))=true by simp;omega,show decide (((2*j+1:Nat):Int)<(l.length:Int))=true by simp;omega,if_true,elemP,Int.toNat_natCast,List.getElem?_map,hx,hy,Option.map_some,show (0:Int)≤((2*j:Nat):Int) by omega,show (0:Int)≤((2*j+1:Nat):Int) by omega,true_and,atP_zero,Qcy_n,fc_int,catP,List.length_cons,List.length_nil,show A.length+(0+1)<1073741824 by omega]
   simp [sAbove]
  ·have t2:l.take (2*(j+1))=l.take (2*j)++[x]:=by
    rw [←t1,List.take_of_length_le (by omega),List.take_of_length_le (by omega)]
   rw [t2,sAbove_app j _ _ hll]
   generalize sAbove (l.take (2*j))=A at hA
   simp only [Qcz_r0,un,cur0,binP_lss,binP_add,lenP_eq,ints,List.length_map,iteP_eq,w1,w2,show decide (((2*j:Nat):Int)<(l.length:Int))=true by simp;omega,show decide (((2*j+1:Nat):Int)<(l.length:Int))=false by simp;omega,if_true,Bool.false_eq_true,if_false,elemP,Int.toNat_natCast,List.getElem?_map,hx,Option.map_some,show (0:Int)≤((2*j:Nat):Int) by omega,true_and,atP_zero,fc_int,catP,List.length_cons,List.length_nil,show A.length+(0+1)<1073741824 by omega]
   simp [sAbove]
 ·have:l.take (2*((l.length+1) / 2))=l:=List.take_of_length_le (by omega)
  rw [this]
  simp only [Qcz_r0,un,cur0,binP_lss,lenP_eq,ints,List.length_map,iteP_eq,show decide (((2*((l.length+1) / 2):Nat):Int)<(l.length:Int))=false by simp;omega]
  simp) k
theorem Qda_lp (k:List PV→Prop):∀(n:Nat) (l:List Int),l.length<n→1≤l.length→l.length≤1048576→(lp (fun L w=>Qda_r0 w L (fun q3 q4=>elemP 1 q4 (I 0) fun c5=>rt [.sc] [atP c5 0] k)) [I 0,ints l]↔k [I (sTopN n l)])
 | 0,l,h,_,_=>by omega
 | n+1,l,h,h1,h2=>by
  unfold sTopN
  by_cases hl:1<l.length
  ·have ha:=sAbove_len l
   have ih:=Qda_lp k n (sAbove l) (by omega) (by omega) (by omega)
   rw [if_pos hl]
   refine (lp_step fun K=>?_).trans ih
   have e:=Qcz_n l h2
   simp [Qda_r0,show (1:Int)<l.length by omega,e]
  ·rw [if_neg hl]
   refine itP_mono_end fun K=>?_
   match l,h1,hl with
   | [a],_,_=>simp [Qda_r0,ints,elemP]
   | _::_::_,_,hl=>simp at hl
theorem Qda_n (l:List Int) (h:l.length≤1048576) (k):call Qda [.one (ints l)] k=k [I (sTop l)]:=call_of (fun k=>by
 have eh:∀(l:List Int),l.length<1000→∀k,call Qbt [.one (ints l)] k=k [I (sHash l)]:=fun l hl=>Qbt_n l (by omega)
 unfold sTop
 by_cases h0:l.length=0
 ·have:l=[]:=List.eq_nil_of_length_eq_zero h0
  subst this
  have e:=eh [229] (by simp)
  rw [show ints [229]=PV.list 1 [[I 229]] from rfl] at e
  simp [Qda,fc_int,e]
 ·rw [if_neg h0]
  have e:=Qda_lp k (l.length+1) l (by omega) (by omega) h
  rw [←e]
  simp [Qda,show ¬(l.length:Int)=0 by omega,show ¬l=[] by (rintro rfl;simp at h0)]) k
theorem Qdb_n (a b:Int) (k):call Qdb [.one (I a),.one (I b)] k=k [I (sHash [231,a,b])]:=call_of (fun k=>by
 have eh:∀(l:List Int),l.length<1000→∀k,call Qbt [.one (ints l)] k=k [I (sHash l)]:=fun l hl=>Qbt_n l (by omega)
 have e:=eh [231,a,b] (by simp)
 rw [show ints [231,a,b]=PV.list 1 [[I 231],[I a],[I b]] from rfl] at e
 simp [Qdb,fc_int,e]) k
theorem Qdc_n (l:List GEntry) (h:mEntryS l≤1048576) (k):call Qdc [.one (.list 4 (l.map eEntry))] k=k [I (sRoot l)]:=call_of (fun k=>by
 have hl:=(entries_le h).1
 have e1:=Qcx_n l h
 have e2:=Qda_n (l.map sLeaf) (by simpa using hl)
 simp [Qdc,e1,e2,Qdb_n,sRoot]) k
theorem last_some {l:List GSigned} {p:GHead} (h:sLast l=some p):sIsChain l=true∧∃s,l[l.length-1]? = some s∧s.Head=p:=by
 unfold sLast at h
 split at h
 ·rename_i hc
  obtain ⟨s,hs,hp⟩:=Option.map_eq_some_iff.1 h
  exact ⟨hc,s,hs,hp⟩
 ·cases h
theorem last_none' {l:List GSigned} (h:sLast l=none):sIsChain l=false:=by
 unfold sLast at h
 cases hc:sIsChain l with
 | false=>rfl
 | true =>
  obtain ⟨p,hp,_⟩:=chain_has hc
  rw [hc,if_pos rfl,hp] at h;cases h
theorem findI_bd {α:Type} (p:α→Bool):∀(l:List α) (i:Nat),findI p i l=-1∨((i:Int)≤findI p i l∧findI p i l<(i:Int)+l.length)
 | [],i=>.inl rfl
 | x::l,i=>by
  unfold findI
  split
  ·right;simp;omega
  ·rcases findI_bd p l (i+1) with h | ⟨h1,h2⟩
   ·exact .inl h
   ·right;rw [List.length_cons];omega
theorem findX_neg {α:Type} (p:Nat→α→Bool):∀(i:Nat) (l:List α),findX p i l<0→∀j x,l[j]? = some x→p (i+j) x=false
 | i,[],_,j,x,hx=>by simp at hx
 | i,y::l,h,j,x,hx=>by
  rw [findX] at h
  split at h
  ·omega
  ·rename_i hp
   cases j with
   | zero=>simp at hx;subst hx;simpa using hp
   | succ j =>
    have:=findX_neg p (i+1) l h j x (by simpa using hx)
    rwa [show i+(j+1)=i+1+j by omega]
theorem may_head {p:GHead} {s:GSigned} (h:sMay p s=true):sIsHead s.Head=true:=by
 unfold sMay sCode at h
 cases h1:sIsHead s.Head with
 | true=>rfl
 | false=>rw [h1] at h;cases h2:sIsHead p<;>simp [h2] at h
theorem last_head {l:List GSigned} {p:GHead} (h:sLast l=some p):sIsHead p=true:=by
 obtain ⟨hc,s,hs,rfl⟩:=last_some h
 unfold sIsChain at hc
 simp only [Bool.and_eq_true,decide_eq_true_eq] at hc
 have:=findX_neg (wrongP l) 0 l hc.2 (l.length-1) s hs
 unfold wrongP at this
 split at this
 ·have h2:sIsFirst s=true:=by simpa using this
  unfold sIsFirst at h2
  simp only [Bool.and_eq_true] at h2
  exact h2.1
 ·split at this
  ·exact may_head (by simpa using this)
  ·cases this
theorem last_bounds {l:List GSigned} {p:GHead} (h:sLast l=some p):(0≤p.Count∧p.Count≤12)∧0≤p.Zone:=by
 have:=last_head h
 unfold sIsHead inR at this
 simp only [Bool.and_eq_true,decide_eq_true_eq] at this
 omega
abbrev eChainR (l:List GSigned):List PV:=[.list 17 (l.map eSigned)]
theorem binP_xor {x:IntKind} {m n:Int} {k:PV→Prop}:binP .xor (.int x m) (.int x n) k=k (.int x (x.wrap ((BitVec.ofInt x.bits m ^^^ BitVec.ofInt x.bits n).toNat:Int))):=by simp [binP]
theorem app_len {α:Type} {l m r s:List α} (h:l.length=m.length):l++r=m++s↔l=m∧r=s :=
 ⟨fun e=>List.append_inj e h,fun ⟨a,b⟩=>by rw [a,b]⟩
theorem keysInts_inj {a b:GKeys} {r s:List Int}:keysInts a++r=keysInts b++s↔a=b∧r=s:=by
 obtain ⟨l,n⟩:=a
 obtain ⟨m,q⟩:=b
 simp only [keysInts,List.cons_append,List.cons.injEq,GKeys.mk.injEq]
 constructor
 ·rintro ⟨rfl,h1,h2⟩
  obtain ⟨rfl,rfl⟩:=(app_len (by omega)).1 h2
  exact ⟨⟨rfl,rfl⟩,rfl⟩
 ·rintro ⟨⟨rfl,rfl⟩,rfl⟩;exact ⟨rfl,rfl,rfl⟩
theorem bitI_inj {a b:Bool}:bitI a=bitI b↔a=b:=by cases a<;>cases b<;>simp [bitI]
theorem headInts_inj {a b:GHead}:headInts a=headInts b↔a=b:=by
 obtain ⟨a1,a2,a3,a4,a5,a6,a7,a8,a9,a10,a11,a12,a13⟩:=a
 obtain ⟨b1,b2,b3,b4,b5,b6,b7,b8,b9,b10,b11,b12,b13⟩:=b
 simp only [headInts,List.cons_append,List.nil_append,List.cons.injEq,keysInts_inj,bitI_inj,GHead.mk.injEq,and_true]
theorem Qjd_n (a b:GHead) (h:mHead a≤1048576) (h':mHead b≤1048576) (k):call Qjd [.agg (eHead a),.agg (eHead b)] k=k [.bool (decide (a=b))]:=call_of (fun k=>by
 have i1:=Qem_n a h
 have i2:=Qem_n b h'
 have hl:=headInts_len a
 have e:=Qfa_n (headInts a) (headInts b) (by omega)
 unfold mHead at h
 have k1:=Qfb_n a.Keys b.Keys (by omega)
 have k2:=Qfb_n a.Heirs b.Heirs (by omega)
 have k3:=Qfb_n a.Judge b.Judge (by omega)
 simp only [Qjd,un,cur0,k1,k2,k3,i1,i2,e,atP_zero,iteP_eq,rt_eq,scs_sc,scs_nil,flat_bool,true_and,and_true,headInts_inj]
 by_cases hk:a=b
 ·subst hk;simp
 ·simp [hk]) k
theorem Qhf_n (a b:GHead) (h:mHead a≤1048576) (h':mHead b≤1048576) (k):call Qhf [.agg (eHead a),.agg (eHead b)] k=k [.bool (decide (a=b))]:=call_of (fun k=>by
 have i1:=Qbv_n a h
 have i2:=Qbv_n b h'
 have hl:=headInts_len a
 have e:=Qce_n (headInts a) (headInts b) (by omega)
 simp only [Qhf,un,cur0,i1,i2,e,atP_zero,iteP_eq,boolP,rt_eq,scs_sc,scs_nil,flat_bool,true_and,and_true,headInts_inj]
 by_cases hk:a=b
 ·subst hk;simp
 ·simp [hk]) k
abbrev sigs (l:List GSig):PV:=.list 2 (l.map eSig)
theorem Qji_n (l m:List GSig) (h:l.length<1073741824) (k):call Qji [.one (sigs l),.one (sigs m)] k=k [.bool (decide (l=m))]:=call_of (fun k=>by
 simp [Qji]
 by_cases hl:l.length=m.length
 ·rw [←listEq_d]
  simp [hl]
  refine lp_zipk k l m (fun i=>[sigs l,sigs m,.bool false,I m.length,I i]) eqD rfl hl (fun i x y hx hy hi hj K=>?_) fun K=>?_
  ·obtain ⟨a,b⟩:=x
   obtain ⟨c,d⟩:=y
   simp [-getElem?_pos,Qji_r0,hx,hy,hj,wr_succ (show i<1000000000000000000 by omega),aggP,sames,PV.same,kindsP,kindP]
  ·simp [Qji_r0,hl]
 ·simp [show ¬(l.length:Int)=m.length by omega,len_ne hl]) k
theorem Qjj_n (a b:GSigned) (h:mSigned a≤1048576) (h':mSigned b≤1048576) (k):call Qjj [.agg (eSigned a),.agg (eSigned b)] k=k [.bool (decide (a=b))]:=call_of (fun k=>by
 unfold mSigned at h h'
 have e1:=Qjd_n a.Head b.Head (by omega) (by omega)
 have e2:=Qji_n a.Sigs b.Sigs (by omega)
 obtain ⟨x,l⟩:=a
 obtain ⟨y,m⟩:=b
 simp only at e1 e2
 simp only [Qjj,un,cur0,e1,e2,atP_zero,iteP_eq,rt_eq,scs_sc,scs_nil,flat_bool,true_and,and_true,GSigned.mk.injEq,Bool.decide_and]
 by_cases hk:x=y<;>simp [hk]) k
theorem Qhv_n (a b:GSigned) (h:mSigned a≤1048576) (h':mSigned b≤1048576) (k):call Qhv [.agg (eSigned a),.agg (eSigned b)] k=k [.bool (decide (a=b))]:=call_of (fun k=>by
 unfold mSigned at h h'
 have e1:=Qhf_n a.Head b.Head (by omega) (by omega)
 obtain ⟨x,l⟩:=a
 obtain ⟨y,m⟩:=b
 simp only at e1 h h'
 simp only [Qhv,un,cur0,e1,atP_zero,iteP_eq,rt_eq,scs_sc,scs_nil,flat_bool,true_and,and_true,GSigned.mk.injEq,Bool.decide_and]
 by_cases hk:x=y
 ·subst hk
  simp
  by_cases hl:l.length=m.length
  ·rw [←listEq_d]
   simp [hl]
   refine lp_zipk k l m (fun i=>[.bool false,I i]++eHead x++[sigs m]++eHead x++[sigs l]) eqD rfl hl (fun i x y hx hy hi hj K=>?_) fun K=>?_
   ·obtain ⟨a,b⟩:=x
    obtain ⟨c,d⟩:=y
    simp [-getElem?_pos,Qhv_r0,hx,hy,hi,wr_succ (show i<1000000000000000000 by omega),aggP,sames,PV.same,kindsP,kindP]
   ·simp [Qhv_r0,hl]
  ·simp [show ¬(l.length:Int)=m.length by omega,len_ne hl]
 ·simp [hk]) k
theorem Qhn_n (l m:List ByteArray) (h:l.length+sumN ByteArray.size l≤1048576) (h':m.length+sumN ByteArray.size m≤1048576) (k):call Qhn [.one (.list 1 (l.map rS)),.one (.list 1 (m.map rS))] k=k [.bool (decide (l=m))]:=call_of (fun k=>by
 simp [Qhn]
 by_cases hl:l.length=m.length
 ·rw [←listEq_d]
  simp [hl]
  refine lp_zipk k l m (fun i=>[.list 1 (l.map rS),.list 1 (m.map rS),.bool false,I i]) eqD rfl hl (fun i x y hx hy hi hj K=>?_) fun K=>?_
  ·have s1:=sumN_mem (s:=ByteArray.size) (mem_get hx)
   have s2:=sumN_mem (s:=ByteArray.size) (mem_get hy)
   simp [-getElem?_pos,Qhn_r0,hx,hy,hi,wr_succ (show i<1000000000000000000 by omega)]
   all_goals (by_cases hxy:x=y<;>simp [hxy])
  ·simp [Qhn_r0]
 ·simp [show ¬(l.length:Int)=m.length by omega,len_ne hl]) k
theorem Qiq_n (l m:List ByteArray) (h:l.length<1073741824) (k):call Qiq [.one (strs l),.one (strs m)] k=k [.bool (decide (l=m))]:=call_of (fun k=>by
 simp [Qiq]
 by_cases hl:l.length=m.length
 ·rw [←listEq_d]
  simp [hl]
  refine lp_zipk k l m (fun i=>[strs l,strs m,.bool false,I m.length,I i]) eqD rfl hl (fun i x y hx hy hi hj K=>?_) fun K=>?_
  ·simp [-getElem?_pos,Qiq_r0,hx,hy,hj,wr_succ (show i<1000000000000000000 by omega)]
   all_goals (by_cases hxy:x=y<;>simp [hxy])
  ·simp [Qiq_r0,hl]
 ·simp [show ¬(l.length:Int)=m.length by omega,len_ne hl]) k
theorem Qir_n (a b:GEntry) (h:mEntry a≤1048576) (h':mEntry b≤1048576) (k):call Qir [.agg (eEntry a),.agg (eEntry b)] k=k [.bool (decide (a=b))]:=call_of (fun k=>by
 unfold mEntry at h h'
 obtain ⟨a1,a2,a3,l⟩:=a
 obtain ⟨b1,b2,b3,m⟩:=b
 simp only at h h'
 have e:=Qiq_n l m (by omega)
 simp [Qir,e]
 by_cases h1:a1=b1<;>by_cases h2:a2=b2<;>by_cases h3:a3=b3<;>simp [h1,h2,h3]) k
theorem Qho_n (a b:GEntry) (h:mEntry a≤1048576) (h':mEntry b≤1048576) (k):call Qho [.agg (eEntry a),.agg (eEntry b)] k=k [.bool (decide (a=b))]:=call_of (fun k=>by
 unfold mEntry at h h'
 obtain ⟨a1,a2,a3,l⟩:=a
 obtain ⟨b1,b2,b3,m⟩:=b
 simp only at h h'
 have e:=Qhn_n l m (by omega) (by omega)
 simp [Qho,e]
 by_cases h1:a1=b1<;>by_cases h2:a2=b2<;>by_cases h3:a3=b3<;>simp [h1,h2,h3]) k
theorem Qis_n (a b:GProof) (h:mProof a≤1048576) (h':mProof b≤1048576) (k):call Qis [.agg (eProof a),.agg (eProof b)] k=k [.bool (decide (a=b))]:=call_of (fun k=>by
 unfold mProof at h h'
 obtain ⟨a1,l⟩:=a
 obtain ⟨b1,m⟩:=b
 simp only at h h'
 have e:=Qfa_n l m (by omega)
 simp [Qis,e]
 by_cases h1:a1=b1<;>simp [h1]) k
theorem Qit_n (a b:GGap) (h:mGap a≤1048576) (h':mGap b≤1048576) (k):call Qit [.agg (eGap a),.agg (eGap b)] k=k [.bool (decide (a=b))]:=call_of (fun k=>by
 unfold mGap at h h'
 obtain ⟨a1,a2,a3,a4,a5⟩:=a
 obtain ⟨b1,b2,b3,b4,b5⟩:=b
 simp only at h h'
 have e2:=Qir_n a2 b2 (by omega) (by omega)
 have e3:=Qir_n a3 b3 (by omega) (by omega)
 have e4:=Qis_n a4 b4 (by omega) (by omega)
 have e5:=Qis_n a5 b5 (by omega) (by omega)
 simp [Qit,e2,e3,e4,e5]
 by_cases h1:a1=b1<;>by_cases h2:a2=b2<;>by_cases h3:a3=b3<;>by_cases h4:a4=b4<;>simp [h1,h2,h3,h4]) k
theorem Qhp_n (a b:GProof) (h:mProof a≤1048576) (h':mProof b≤1048576) (k):call Qhp [.agg (eProof a),.agg (eProof b)] k=k [.bool (decide (a=b))]:=call_of (fun k=>by
 unfold mProof at h h'
 obtain ⟨a1,l⟩:=a
 obtain ⟨b1,m⟩:=b
 simp only at h h'
 have e:=Qce_n l m (by omega)
 simp [Qhp,e]
 by_cases h1:a1=b1<;>simp [h1]) k
theorem Qhq_n (a b:GGap) (h:mGap a≤1048576) (h':mGap b≤1048576) (k):call Qhq [.agg (eGap a),.agg (eGap b)] k=k [.bool (decide (a=b))]:=call_of (fun k=>by
 unfold mGap at h h'
 obtain ⟨a1,a2,a3,a4,a5⟩:=a
 obtain ⟨b1,b2,b3,b4,b5⟩:=b
 simp only at h h'
 have e2:=Qho_n a2 b2 (by omega) (by omega)
 have e3:=Qho_n a3 b3 (by omega) (by omega)
 have e4:=Qhp_n a4 b4 (by omega) (by omega)
 have e5:=Qhp_n a5 b5 (by omega) (by omega)
 simp [Qhq,e2,e3,e4,e5]
 by_cases h1:a1=b1<;>by_cases h2:a2=b2<;>by_cases h3:a3=b3<;>by_cases h4:a4=b4<;>simp [h1,h2,h3,h4]) k
def preP (m:List GSigned) (i:Nat) (x:GSigned):Bool:=match m[i]? with | some y=>!decide (x.Head=y.Head) | none=>true
def sPre (l m:List GSigned):Bool:=decide (l.length≤m.length)&&(anyI (preP m) 0 l==false)
theorem mHead_le {l:List GSigned} {x:GSigned} (h:mSignedS l≤1048576) (hx:x∈l):mHead x.Head≤1048576:=by
 unfold mSignedS at h
 have:=sumN_mem (s:=mSigned) hx
 have e:mSigned x=mHead x.Head+x.Sigs.length:=rfl
 omega
theorem len_le {l:List GSigned} (h:mSignedS l≤1048576):l.length≤1048576:=by unfold mSignedS at h;omega
theorem Qim_n (l:List GSigned) (h:mSignedS l≤1048576) (k):call Qim [.one (.list 17 (l.map eSigned))] k=k (oHead (sLast l)):=call_of (fun k=>by
 obtain ⟨hl,hx0⟩:=chain_le h
 have e:=Qfi_n l h
 unfold sLast
 cases hc:sIsChain l with
 | false=>simp [Qim,e,hc,oHead,zHead,ints]
 | true =>
  obtain ⟨p,hp,h0⟩:=chain_has hc
  have e2:=Qfj_n l p hl hp
  have e3:=Qdi_n p.Head (signed_le (hx0 p (mem_get hp))).1
  simp [-getElem?_pos,Qim,e,hc,e2,e3,oHead,hp]) k
def sTF:Nat→Int→Nat→Nat→List Int→Option Int
 | 0,_,_,_,_=>none
 | f+1,leaf,i,n,path=>if 1<n then
  (if i % 2=1∨i+1<n then (match path with | []=>none | p::r=>sTF f (if i % 2=1 then sNode p leaf else sNode leaf p) (i / 2) ((n+1) / 2) r)
   else sTF f leaf (i / 2) ((n+1) / 2) path)
  else (match path with | []=>some leaf | _::_=>none)
def oTop:Option Int→List PV
 | some t=>[I t,.bool true]
 | none=>[I 0,.bool false]
theorem tmod2 (i:Nat):(i:Int).tmod 2=((i % 2:Nat):Int):=(Int.ofNat_tmod i 2).symm
theorem wdiv2 (i:Nat) (h:i<1000):IntKind.i64.wrap ((i:Int).tdiv 2)=((i / 2:Nat):Int):=by
 rw [show (i:Int).tdiv 2=((i / 2:Nat):Int) from (Int.ofNat_tdiv i 2).symm]
 exact wr_eq (by omega) (by omega)
theorem wsucc (i:Nat) (h:i<1000):IntKind.i64.wrap ((i:Int)+1)=((i+1:Nat):Int):=by rw [wr_eq (by omega) (by omega)];omega
theorem mod2_eq (i:Nat):decide (((i % 2:Nat):Int)=1)=decide (i % 2=1):=by apply decide_eq_decide.2;omega
theorem mod2_eq0 (i:Nat):decide (((i % 2:Nat):Int)=0)=!decide (i % 2=1):=by
 by_cases h:i % 2=1
 ·simp [h]
 ·have:i % 2=0:=by omega
  simp [this]
theorem spec_TF_lp (k:List PV→Prop) (path:List Int) (hp:path.length≤1048576):∀(f:Nat) (leaf:Int) (i n used:Nat),n<f→n≤12→i≤12→used≤path.length →
 (lp (fun L w=>Qhl_r0 w L (k [I 0,.bool false]) fun q40 q41 q42 q43 q44 q45 q46=>lenP q43 fun r47=>binP .neq q46 r47 fun r48=>iteP r48 (k [I 0,.bool false]) (rt [.sc,.sc] [q40,.bool true] k)) [I leaf,I i,I n,ints path,I 0,.bool false,I used]↔k (oTop (sTF f leaf i n (path.drop used))))
 | 0,_,_,_,_,h,_,_,_=>by omega
 | f+1,leaf,i,n,used,h,hn,hi,hu=>by
  unfold sTF
  by_cases h1:1<n
  ·rw [if_pos h1]
   by_cases hc:i % 2=1∨i+1<n
   ·rw [if_pos hc]
    by_cases he:used=path.length
    ·rw [List.drop_of_length_le (by omega)]
     refine itP_mono_end fun K=>?_
     subst he
     simp only [Qhl_r0,un,cur0,binP_gtr,binP_rem,binP_eql,binP_geq,binP_add,binP_lss,beqI,tmod2,mod2_eq,wsucc i (by omega),lenP_eq,List.length_map,iteP_eq,show decide ((1:Int)<n)=true by simp;omega,if_true]
     rcases hc with hc | hc
     ·simp [hc,oTop]
     ·by_cases ho:i % 2=1
      ·simp [ho,oTop]
      ·simp [ho,show ((i+1:Nat):Int)<n by omega,oTop]
       intro h;omega
    ·obtain ⟨p,hx⟩:∃p,path[used]? = some p:=⟨path[used],List.getElem?_eq_getElem (by omega)⟩
     have hd:path.drop used=p::path.drop (used+1):=by
      rw [List.drop_eq_getElem_cons (by omega)]
      congr 1
      rw [List.getElem?_eq_getElem (by omega)] at hx
      injection hx
     rw [hd]
     simp only
     refine (lp_step fun K=>?_).trans (spec_TF_lp k path hp f (if i % 2=1 then sNode p leaf else sNode leaf p) (i / 2) ((n+1) / 2) (used+1) (by omega) (by omega) (by omega) (by omega))
     simp only [Qhl_r0,un,cur0,binP_gtr,binP_rem,binP_quo,binP_eql,binP_geq,binP_add,binP_lss,beqI,tmod2,mod2_eq,wsucc i (by omega),wsucc n (by omega),wdiv2 i (by omega),wdiv2 (n+1) (by omega),wr_succ (show used<1000000000000000000 by omega),lenP_eq,List.length_map,iteP_eq,show decide ((1:Int)<n)=true by simp;omega,show decide (((path.length:Nat):Int)≤used)=false by simp;omega,if_true,elemP,Int.toNat_natCast,List.getElem?_map,hx,Option.map_some,show (0:Int)≤used by omega,true_and,atP_zero,Qcy_n]
     by_cases ho:i % 2=1
     ·simp [ho]
     ·rcases hc with hc | hc
      ·exact absurd hc ho
      ·simp [ho,show ((i+1:Nat):Int)<n by omega]
       omega
   ·rw [if_neg hc]
    refine (lp_step fun K=>?_).trans (spec_TF_lp k path hp f leaf (i / 2) ((n+1) / 2) used (by omega) (by omega) (by omega) hu)
    simp only [Qhl_r0,un,cur0,binP_gtr,binP_rem,binP_quo,binP_eql,binP_geq,binP_add,binP_lss,beqI,tmod2,mod2_eq,wsucc i (by omega),wsucc n (by omega),wdiv2 i (by omega),wdiv2 (n+1) (by omega),lenP_eq,List.length_map,iteP_eq,show decide ((1:Int)<n)=true by simp;omega,if_true]
    have ho:¬i % 2=1:=fun h=>hc (.inl h)
    have hl:¬((i+1:Nat):Int)<n:=by intro h;exact hc (.inr (by omega))
    simp only [ho,hl,decide_false,Bool.false_eq_true,if_false]
    simp
  ·rw [if_neg h1]
   refine itP_mono_end fun K=>?_
   simp only [Qhl_r0,un,cur0,binP_gtr,binP_neq,bne,beqI,lenP_eq,List.length_map,iteP_eq,show decide ((1:Int)<n)=false by simp;omega,Bool.false_eq_true,if_false,rt_eq,scs_sc,scs_nil,flat_int,flat_bool,true_and,and_true]
   by_cases he:used=path.length
   ·rw [List.drop_of_length_le (by omega)]
    simp [he,oTop]
   ·rw [List.drop_eq_getElem_cons (by omega)]
    simp [show ¬(used:Int)=path.length by omega,oTop]
def sTopFrom (leaf at_ count:Int) (path:List Int):Option Int:=if (inR count 1 12&&inR at_ 0 (count-1))=true then sTF 13 leaf at_.toNat count.toNat path else none
theorem Qhl_n (leaf at_ count:Int) (path:List Int) (hp:path.length≤1048576) (k):call Qhl [.one (I leaf),.one (I at_),.one (I count),.one (ints path)] k=k (oTop (sTopFrom leaf at_ count path)):=call_of (fun k=>by
 unfold sTopFrom
 cases h1:inR count 1 12 with
 | false=>simp [Qhl,Qbn_n,h1,oTop]
 | true =>
  have b1:1≤count∧count≤12:=by unfold inR at h1;simpa using h1
  have w:IntKind.i64.wrap (count-1)=count-1:=wr_eq (by omega) (by omega)
  cases h2:inR at_ 0 (count-1) with
  | false=>simp [Qhl,Qbn_n,h1,w,h2,oTop]
  | true =>
   have b2:0≤at_∧at_≤count-1:=by unfold inR at h2;simpa using h2
   have e:=spec_TF_lp k path hp 13 leaf at_.toNat count.toNat 0 (by omega) (by omega) (by omega) (by omega)
   rw [show ((at_.toNat:Nat):Int)=at_ by omega,show ((count.toNat:Nat):Int)=count by omega] at e
   simp only [Bool.and_self,if_true,List.drop_zero] at e ⊢
   rw [←e]
   simp only [Qhl,Qbn_n,h1,h2,w,binP_sub,unP_not,atP_zero,iteP_eq,Bool.not_true,Bool.false_eq_true,if_false,rt_eq,scs_sc,scs_nil,flat_int,flat_bool,true_and]
   exact Iff.rfl) k
theorem xor1:∀i:Nat,i<13→IntKind.i64.wrap ((BitVec.ofInt IntKind.i64.bits (i:Int) ^^^ BitVec.ofInt IntKind.i64.bits 1).toNat:Int)=if i % 2=1 then (i:Int)-1 else (i:Int)+1:=by decide +kernel
theorem impl_TF_lp (k:List PV→Prop):∀(f:Nat) (leaf:Int) (i n:Nat) (path:List Int),n<f→n≤12→i<n∨n≤1→i≤12→path.length≤1048576 →
 (lp (fun L w=>Qio_r0 w L (k [I 0,.bool false]) fun q24 q25 q26 q27 q28 q29=>lenP q27 fun r30=>binP .gtr r30 (I 0) fun r31=>iteP r31 (k [I 0,.bool false]) (rt [.sc,.sc] [q24,.bool true] k)) [I leaf,I i,I n,ints path,I 0,.bool false]↔k (oTop (sTF f leaf i n path)))
 | 0,_,_,_,_,h,_,_,_,_=>by omega
 | f+1,leaf,i,n,path,h,hn,hin,hi,hp=>by
  unfold sTF
  by_cases h1:1<n
  ·rw [if_pos h1]
   have hx:decide ((n:Int)≤if i % 2=1 then (i:Int)-1 else (i:Int)+1)=!decide (i % 2=1∨i+1<n):=by
    by_cases ho:i % 2=1
    ·rw [if_pos ho];simp [ho];omega
    ·rw [if_neg ho]
     by_cases hl:i+1<n
     ·simp [ho,hl];omega
     ·simp [ho,hl];omega
   by_cases hc:i % 2=1∨i+1<n
   ·rw [if_pos hc]
    match path with
    | [] =>
     refine itP_mono_end fun K=>?_
     simp only [Qio_r0,un,cur0,binP_gtr,binP_xor,xor1 i (by omega),binP_geq,hx,hc,decide_true,Bool.not_true,Bool.false_eq_true,if_false,lenP_eq,List.length_map,List.length_nil,binP_eql,beqI,iteP_eq,show decide ((1:Int)<n)=true by simp;omega,if_true]
     simp [oTop]
    | p::r =>
     simp only
     refine (lp_step fun K=>?_).trans (impl_TF_lp k f (if i % 2=1 then sNode p leaf else sNode leaf p) (i / 2) ((n+1) / 2) r (by omega) (by omega) (by omega) (by omega) (by simp at hp;omega))
     simp only [Qio_r0,un,cur0,binP_gtr,binP_xor,xor1 i (by omega),binP_geq,hx,hc,decide_true,Bool.not_true,Bool.false_eq_true,if_false,lenP_eq,List.length_map,List.length_cons,binP_eql,binP_rem,binP_quo,binP_add,beqI,tmod2,mod2_eq0,wsucc n (by omega),wdiv2 i (by omega),wdiv2 (n+1) (by omega),iteP_eq,show decide ((1:Int)<n)=true by simp;omega,if_true,show decide (((r.length+1:Nat):Int)=0)=false by simp;omega,ints,List.map_cons,elemP,show ((0:Int)).toNat=0 from rfl,List.getElem?_cons_zero,show (0:Int)≤0 by omega,true_and,atP_zero,Qga_n,natP,cutP]
     by_cases ho:i % 2=1<;>simp [ho,List.take_of_length_le]
   ·rw [if_neg hc]
    refine (lp_step fun K=>?_).trans (impl_TF_lp k f leaf (i / 2) ((n+1) / 2) path (by omega) (by omega) (by omega) (by omega) hp)
    simp only [Qio_r0,un,cur0,binP_gtr,binP_xor,xor1 i (by omega),binP_geq,hx,hc,decide_false,Bool.not_false,if_true,lenP_eq,List.length_map,binP_quo,binP_add,wsucc n (by omega),wdiv2 i (by omega),wdiv2 (n+1) (by omega),iteP_eq,show decide ((1:Int)<n)=true by simp;omega]
    simp
  ·rw [if_neg h1]
   refine itP_mono_end fun K=>?_
   simp only [Qio_r0,un,cur0,binP_gtr,lenP_eq,List.length_map,iteP_eq,show decide ((1:Int)<n)=false by simp;omega,Bool.false_eq_true,if_false,rt_eq,scs_sc,scs_nil,flat_int,flat_bool,true_and,and_true]
   match path with
   | []=>simp [oTop]
   | p::r=>simp [oTop]
theorem Qio_n (leaf at_ count:Int) (path:List Int) (hp:path.length≤1048576) (k):call Qio [.one (I leaf),.one (I at_),.one (I count),.one (ints path)] k=k (oTop (sTopFrom leaf at_ count path)):=call_of (fun k=>by
 unfold sTopFrom
 by_cases c1:count<1
 ·have:inR count 1 12=false:=by unfold inR;simp;omega
  simp [Qio,c1,this,oTop]
 by_cases c2:12<count
 ·have:inR count 1 12=false:=by unfold inR;simp;omega
  simp [Qio,c1,c2,this,oTop]
 have h1:inR count 1 12=true:=by unfold inR;simp;omega
 have w:IntKind.i64.wrap (count-1)=count-1:=wr_eq (by omega) (by omega)
 cases h2:inR at_ 0 (count-1) with
 | false=>simp [Qio,Qdv_n,c1,c2,w,h2,oTop]
 | true =>
  have b2:0≤at_∧at_≤count-1:=by unfold inR at h2;simpa using h2
  have e:=impl_TF_lp k 13 leaf at_.toNat count.toNat path (by omega) (by omega) (by omega) (by omega) hp
  rw [show ((at_.toNat:Nat):Int)=at_ by omega,show ((count.toNat:Nat):Int)=count by omega] at e
  simp only [h1,Bool.and_self,if_true]
  rw [←e]
  simp only [Qio,Qdv_n,binP_lss,binP_gtr,h2,w,binP_sub,unP_not,atP_zero,iteP_eq,c1,c2,decide_false,Bool.not_true,Bool.false_eq_true,if_false,rt_eq,scs_sc,scs_nil,flat_int,flat_bool,true_and]) k
def zEntry:GEntry:=⟨⟨#[]⟩,0,0,[]⟩
def zProof:GProof:=⟨0,[]⟩
def zGap:GGap:=⟨0,zEntry,zEntry,zProof,zProof⟩
def sZero (e:GEntry) (p:GProof):Bool:=decide (e=zEntry)&&decide (p=zProof)
def sCheckEntry (root count:Int) (e:GEntry) (p:GProof):Bool:=sIsEntry e&&(match sTopFrom (sLeaf e) p.At count p.Path with | some t=>decide (sHash [231,count,t]=root) | none=>false)
theorem Qip_n (root count:Int) (e:GEntry) (p:GProof) (h:mEntry e≤1048576) (hp:mProof p≤1048576) (k):call Qip [.one (I root),.one (I count),.agg (eEntry e),.agg (eProof p)] k=k [.bool (sCheckEntry root count e p)]:=call_of (fun k=>by
 unfold mProof at hp
 have e1:=Qfx_n e h
 have e2:=Qfp_n e h
 have e3:=Qio_n (sLeaf e) p.At count p.Path hp
 have e1':∀k,call Qfx [.agg (eEntry e)] k=k [I (sLeaf e)]:=e1
 unfold sCheckEntry
 cases ht:sTopFrom (sLeaf e) p.At count p.Path with
 | none =>
  rw [ht] at e3
  simp only [Qip,un,cur0,e1',e2,e3,oTop,atP_zero,atP_succ,iteP_eq,rt_eq,scs_sc,scs_nil,flat_bool,true_and]
  cases sIsEntry e<;>simp
 | some t =>
  rw [ht] at e3
  simp only [Qip,un,cur0,e1',e2,e3,oTop,atP_zero,atP_succ,Qgd_n,binP_eql,beqI,iteP_eq,rt_eq,scs_sc,scs_nil,flat_bool,true_and]
  cases sIsEntry e<;>simp) k
theorem Qhm_n (root count:Int) (e:GEntry) (p:GProof) (h:mEntry e≤1048576) (hp:mProof p≤1048576) (k):call Qhm [.one (I root),.one (I count),.agg (eEntry e),.agg (eProof p)] k=k [.bool (sCheckEntry root count e p)]:=call_of (fun k=>by
 unfold mProof at hp
 have e1:=Qcw_n e h
 have e2:=Qcq_n e h
 have e3:=Qhl_n (sLeaf e) p.At count p.Path hp
 have e1':∀k,call Qcw [.agg (eEntry e)] k=k [I (sLeaf e)]:=e1
 unfold sCheckEntry
 cases ht:sTopFrom (sLeaf e) p.At count p.Path with
 | none =>
  rw [ht] at e3
  simp only [Qhm,un,cur0,e1',e2,e3,oTop,atP_zero,atP_succ,iteP_eq,rt_eq,scs_sc,scs_nil,flat_bool,true_and]
  cases sIsEntry e<;>simp
 | some t =>
  rw [ht] at e3
  simp only [Qhm,un,cur0,e1',e2,e3,oTop,atP_zero,atP_succ,Qdb_n,binP_eql,beqI,iteP_eq,rt_eq,scs_sc,scs_nil,flat_bool,true_and]
  cases sIsEntry e<;>simp) k
theorem mz:mEntry zEntry≤1048576∧mProof zProof≤1048576∧mGap zGap≤1048576:=by decide
theorem Qhr_n (e:GEntry) (p:GProof) (h:mEntry e≤1048576) (hp:mProof p≤1048576) (k):call Qhr [.agg (eEntry e),.agg (eProof p)] k=k [.bool (sZero e p)]:=call_of (fun k=>by
 have e1:=Qho_n e zEntry h mz.1
 have e2:=Qhp_n p zProof hp mz.2.1
 simp only [Qhr,un,cur0]
 rw [show [PV.str ⟨#[]⟩,I 0,I 0,PV.list 1 []]=eEntry zEntry from rfl,show [I 0,PV.list 1 []]=eProof zProof from rfl]
 simp only [e1,e2,atP_zero,iteP_eq,rt_eq,scs_sc,scs_nil,flat_bool,true_and]
 exact stepB fun _=>Iff.rfl) k
theorem Qiu_n (e:GEntry) (h:mEntry e≤1048576) (k):call Qiu [.agg (eEntry e)] k=k [.bool (decide (e=zEntry))]:=call_of (fun k=>by
 have e1:=Qir_n e zEntry h mz.1
 simp only [Qiu,un,cur0]
 rw [show [PV.str ⟨#[]⟩,I 0,I 0,PV.list 1 []]=eEntry zEntry from rfl]
 simp only [e1,atP_zero,rt_eq,scs_sc,scs_nil,flat_bool,true_and]) k
theorem Qiv_n (p:GProof) (hp:mProof p≤1048576) (k):call Qiv [.agg (eProof p)] k=k [.bool (decide (p=zProof))]:=call_of (fun k=>by
 have e1:=Qis_n p zProof hp mz.2.1
 simp only [Qiv,un,cur0]
 rw [show [I 0,PV.list 1 []]=eProof zProof from rfl]
 simp only [e1,atP_zero,rt_eq,scs_sc,scs_nil,flat_bool,true_and]) k
def sLower (root count:Int) (label:ByteArray) (g:GGap):Bool:=if decide (g.At=0)=true then sZero g.Before g.Left else sCheckEntry root count g.Before g.Left&&(decide (g.Left.At=g.At-1)&&decide (cmpS g.Before.Label label=-1))
def sUpper (root count:Int) (label:ByteArray) (g:GGap):Bool:=if decide (g.At=count)=true then sZero g.After g.Right else sCheckEntry root count g.After g.Right&&(decide (g.Right.At=g.At)&&decide (cmpS g.After.Label label=1))
def sAbs (root count:Int) (label:ByteArray) (g:GGap):Bool:=sLabel label&&(inR g.At 0 count&&(!(decide (count=0)&&!decide (root=sRoot []))&&(sLower root count label g&&sUpper root count label g)))
theorem gap_le {g:GGap} (h:mGap g≤1048576):mEntry g.Before≤1048576∧mEntry g.After≤1048576∧mProof g.Left≤1048576∧mProof g.Right≤1048576:=by unfold mGap at h;omega
theorem Qhs_n (root count:Int) (label:ByteArray) (g:GGap) (hc:count≤12) (hl:label.size≤1048576) (h:mGap g≤1048576) (k):call Qhs [.one (I root),.one (I count),.one (.str label),.agg (eGap g)] k=k [.bool (sAbs root count label g)]:=call_of (fun k=>by
 obtain ⟨g1,g2,g3,g4⟩:=gap_le h
 have e1:=Qco_n label hl
 have e2:=Qhr_n g.Before g.Left g1 g3
 have e3:=Qhr_n g.After g.Right g2 g4
 have e4:=Qhm_n root count g.Before g.Left g1 g3
 have e5:=Qhm_n root count g.After g.Right g2 g4
 have e6:∀k,call Qdc [.one (.list 4 [])] k=k [I (sRoot [])]:=Qdc_n [] (by decide)
 unfold sAbs
 cases hb:sLabel label with
 | false=>simp [Qhs,e1,hb]
 | true =>
  cases hr:inR g.At 0 count with
  | false=>simp [Qhs,e1,hb,Qbn_n,hr]
  | true =>
   have hr':0≤g.At∧g.At≤count:=by unfold inR at hr;simpa using hr
   have hup:(if decide (g.At=count)=true then k [.bool (sZero g.After g.Right)] else if sCheckEntry root count g.After g.Right=true then if decide (g.Right.At=g.At)=true then k [.bool (decide (cmpS g.After.Label label=1))] else k [.bool false] else k [.bool false])↔k [.bool (sUpper root count label g)]:=by
    unfold sUpper
    cases decide (g.At=count)<;>cases sCheckEntry root count g.After g.Right<;>cases decide (g.Right.At=g.At)<;>simp
   have hw3:IntKind.i64.wrap (g.At-1)=g.At-1:=wr_eq (by omega) (by omega)
   simp only [Qhs,un,cur0,e1,hb,Qbn_n,hr,e2,e3,e4,e5,e6,Qcr_n,unP_not,binP_eql,binP_neq,binP_sub,bne,beqI,hw3,atP_zero,iteP_eq,rt_eq,scs_sc,scs_nil,flat_bool,true_and,Bool.not_true,Bool.false_eq_true,if_false,show (0:Nat)≤16777216 by omega,Bool.true_and,propext hup]
   unfold sLower
   generalize sUpper root count label g=u
   cases decide (count=0)<;>cases decide (root=sRoot [])<;>cases decide (g.At=0)<;>cases sZero g.Before g.Left<;>cases sCheckEntry root count g.Before g.Left<;>cases decide (g.Left.At=g.At-1)<;>cases decide (cmpS g.Before.Label label=-1)<;>simp) k
def sNb (root count:Int) (e:GEntry) (p:GProof) (at_:Int):Bool:=if inR at_ 0 (count-1)=true then sCheckEntry root count e p&&decide (p.At=at_) else sZero e p
theorem Qiw_n (root count:Int) (e:GEntry) (p:GProof) (at_:Int) (hc:0≤count∧count≤12) (h:mEntry e≤1048576) (hp:mProof p≤1048576) (k):call Qiw [.one (I root),.one (I count),.agg (eEntry e),.agg (eProof p),.one (I at_)] k=k [.bool (sNb root count e p at_)]:=call_of (fun k=>by
 have e1:=Qip_n root count e p h hp
 have e2:=Qiu_n e h
 have e3:=Qiv_n p hp
 have w:IntKind.i64.wrap (count-1)=count-1:=wr_eq (by omega) (by omega)
 simp only [Qiw,un,cur0,e1,e2,e3,binP_sub,w,Qdv_n,unP_not,binP_eql,beqI,atP_zero,iteP_eq,rt_eq,scs_sc,scs_nil,flat_bool,true_and]
 unfold sNb sZero
 cases inR at_ 0 (count-1)<;>cases decide (e=zEntry)<;>cases sCheckEntry root count e p<;>simp) k
theorem Qix_n (root count:Int) (label:ByteArray) (g:GGap) (hc:0≤count∧count≤12) (hl:label.size≤1048576) (h:mGap g≤1048576) (k):call Qix [.one (I root),.one (I count),.one (.str label),.agg (eGap g)] k=k [.bool (sAbs root count label g)]:=call_of (fun k=>by
 obtain ⟨g1,g2,g3,g4⟩:=gap_le h
 have e1:=Qfk_n label hl
 have e4:=Qiw_n root count g.Before g.Left (g.At-1) hc g1 g3
 have e5:=Qiw_n root count g.After g.Right g.At hc g2 g4
 have e6:∀k,call Qge [.one (.list 4 [])] k=k [I (sRoot [])]:=Qge_n [] (by decide)
 unfold sAbs
 cases hb:sLabel label with
 | false=>simp [Qix,e1,hb]
 | true =>
  cases hr:inR g.At 0 count with
  | false=>simp [Qix,e1,hb,Qdv_n,hr]
  | true =>
   have hr':0≤g.At∧g.At≤count:=by unfold inR at hr;simpa using hr
   have hw3:IntKind.i64.wrap (g.At-1)=g.At-1:=wr_eq (by omega) (by omega)
   have n1:inR (g.At-1) 0 (count-1)=!decide (g.At=0):=by
    unfold inR;by_cases h0:g.At=0
    ·simp [h0]
    ·simp [h0];omega
   have n2:inR g.At 0 (count-1)=!decide (g.At=count):=by
    unfold inR;by_cases h0:g.At=count
    ·simp [h0];try (intro _;omega)
    ·simp [h0];omega
   have c1:decide (cmpS g.Before.Label label<0)=decide (cmpS g.Before.Label label=-1):=by
    rcases cmp_range g.Before.Label.data.toList label.data.toList with h | h | h<;>simp [cmpS,h]
   have c2:decide (0<cmpS g.After.Label label)=decide (cmpS g.After.Label label=1):=by
    rcases cmp_range g.After.Label.data.toList label.data.toList with h | h | h<;>simp [cmpS,h]
   simp only [Qix,un,cur0,e1,hb,Qdv_n,hr,e4,e5,e6,Qfs_n,unP_not,binP_eql,binP_neq,binP_sub,binP_lss,binP_gtr,bne,beqI,hw3,c1,c2,atP_zero,iteP_eq,rt_eq,scs_sc,scs_nil,flat_bool,true_and,Bool.not_true,Bool.false_eq_true,if_false,Bool.true_and]
   unfold sNb sLower sUpper
   rw [n1,n2]
   cases decide (count=0)<;>cases decide (root=sRoot [])<;>cases decide (g.At=0)<;>cases decide (g.At=count)<;>cases sZero g.Before g.Left<;>cases sZero g.After g.Right<;>cases sCheckEntry root count g.Before g.Left<;>cases sCheckEntry root count g.After g.Right<;>cases decide (g.Left.At=g.At-1)<;>cases decide (g.Right.At=g.At)<;>cases decide (cmpS g.Before.Label label=-1)<;>simp) k
def sProved (p:GHead) (label:ByteArray) (a:GAnswer):Bool:=if a.Found=true then (if decide (a.Entry.Label=label)=true then sCheckEntry p.Root p.Count a.Entry a.Proof&&decide (a.Gap=zGap) else false) else sAbs p.Root p.Count label a.Gap&&sZero a.Entry a.Proof
theorem answer_le {a:GAnswer} (h:mAnswer a≤1048576):mSignedS a.Chain≤1048576∧mEntry a.Entry≤1048576∧mProof a.Proof≤1048576∧mGap a.Gap≤1048576:=by unfold mAnswer at h;omega
def sAns (zone:Int) (label:ByteArray) (a:GAnswer) (now:Int):Int:=match sLast a.Chain with
 | none=>3
 | some p=>if decide (p.Zone=zone)=false then 2 else if inR now p.Time p.Until=false then 4 else if p.Frozen=true then 5 else if sProved p label a=false then 6 else 1
theorem Qin_n (p:GHead) (now:Int) (k):call Qin [.agg (eHead p),.one (I now)] k=k [.bool (inR now p.Time p.Until)]:=call_of (fun k=>by
 simp only [Qin,un,cur0,Qdv_n,atP_zero,rt_eq,scs_sc,scs_nil,flat_bool,true_and]) k
theorem Qiy_n (p:GHead) (label:ByteArray) (a:GAnswer) (hc:0≤p.Count∧p.Count≤12) (hl:label.size≤1048576) (h:mAnswer a≤1048576) (k):call Qiy [.agg (eHead p),.one (.str label),.agg (eAnswer a)] k=k [.bool (sProved p label a)]:=call_of (fun k=>by
 obtain ⟨h1,h2,h3,h4⟩:=answer_le h
 have e1:=Qip_n p.Root p.Count a.Entry a.Proof h2 h3
 have e2:=Qit_n a.Gap zGap h4 mz.2.2
 have e3:=Qix_n p.Root p.Count label a.Gap hc hl h4
 have e4:=Qiu_n a.Entry h2
 have e5:=Qiv_n a.Proof h3
 simp only [Qiy,un,cur0]
 rw [show [I 0,PV.str ⟨#[]⟩,I 0,I 0,PV.list 1 [],PV.str ⟨#[]⟩,I 0,I 0,PV.list 1 [],I 0,PV.list 1 [],I 0,PV.list 1 []]=eGap zGap from rfl]
 simp only [e1,e2,e3,e4,e5,binP_seql,atP_zero,iteP_eq,rt_eq,scs_sc,scs_nil,flat_bool,true_and]
 unfold sProved sZero
 generalize decide (a.Entry.Label=label)=b1
 generalize sCheckEntry p.Root p.Count a.Entry a.Proof=b2
 generalize sAbs p.Root p.Count label a.Gap=b3
 generalize decide (a.Entry=zEntry)=b4
 cases a.Found<;>cases b1<;>cases b2<;>cases b3<;>cases b4<;>simp) k
theorem Qiz_n (zone:Int) (label:ByteArray) (a:GAnswer) (now:Int) (hl:label.size≤1048576) (h:mAnswer a≤1048576) (k):call Qiz [.one (I zone),.one (.str label),.agg (eAnswer a),.one (I now)] k=k [I (sAns zone label a now)]:=call_of (fun k=>by
 obtain ⟨h1,h2,h3,h4⟩:=answer_le h
 have e1:=Qim_n a.Chain h1
 unfold sAns
 cases hs:sLast a.Chain with
 | none =>
  rw [hs] at e1
  simp only [Qiz,un,cur0,e1,oHead,zHead,eHead,List.cons_append,List.nil_append,unP_not,atP_zero,atP_succ,iteP_eq,rt_eq,scs_sc,scs_nil,flat_int,true_and,Bool.not_false,if_true]
 | some p =>
  rw [hs] at e1
  have e2:=Qin_n p now
  have e3:=Qiy_n p label a (last_bounds hs).1 hl h
  simp only [Qiz,un,cur0,e1,e2,e3,oHead,eHead,List.cons_append,List.nil_append,unP_not,binP_neq,bne,beqI,atP_zero,atP_succ,iteP_eq,rt_eq,scs_sc,scs_nil,flat_int,true_and,Bool.not_true,Bool.false_eq_true,if_false]
  cases decide (p.Zone=zone)<;>cases inR now p.Time p.Until<;>cases p.Frozen<;>cases sProved p label a<;>simp) k
theorem Qhk_n (p:GHead) (now:Int) (k):call Qhk [.agg (eHead p),.one (I now)] k=k [.bool (inR now p.Time p.Until)]:=call_of (fun k=>by
 simp only [Qhk,un,cur0,Qbn_n,atP_zero,rt_eq,scs_sc,scs_nil,flat_bool,true_and]) k
theorem Qht_n (p:GHead) (label:ByteArray) (a:GAnswer) (hc:0≤p.Count∧p.Count≤12) (hl:label.size≤1048576) (h:mAnswer a≤1048576) (k):call Qht [.agg (eHead p),.one (.str label),.agg (eAnswer a)] k=k [.bool (sProved p label a)]:=call_of (fun k=>by
 obtain ⟨h1,h2,h3,h4⟩:=answer_le h
 have e1:=Qhm_n p.Root p.Count a.Entry a.Proof h2 h3
 have e2:=Qhq_n a.Gap zGap h4 mz.2.2
 have e3:=Qhs_n p.Root p.Count label a.Gap hc.2 hl h4
 have e4:=Qhr_n a.Entry a.Proof h2 h3
 have e5:=e4
 simp only [Qht,un,cur0]
 rw [show [I 0,PV.str ⟨#[]⟩,I 0,I 0,PV.list 1 [],PV.str ⟨#[]⟩,I 0,I 0,PV.list 1 [],I 0,PV.list 1 [],I 0,PV.list 1 []]=eGap zGap from rfl]
 simp only [e1,e2,e3,e4,e5,binP_seql,atP_zero,iteP_eq,rt_eq,scs_sc,scs_nil,flat_bool,true_and]
 unfold sProved
 generalize decide (a.Entry.Label=label)=b1
 generalize sCheckEntry p.Root p.Count a.Entry a.Proof=b2
 generalize sAbs p.Root p.Count label a.Gap=b3
 generalize decide (a.Entry=zEntry)=b4
 cases a.Found<;>cases b1<;>cases b2<;>cases b3<;>cases b4<;>simp) k
theorem Qhu_n (zone:Int) (label:ByteArray) (a:GAnswer) (now:Int) (hl:label.size≤1048576) (h:mAnswer a≤1048576) (k):call Qhu [.one (I zone),.one (.str label),.agg (eAnswer a),.one (I now)] k=k [I (sAns zone label a now)]:=call_of (fun k=>by
 obtain ⟨h1,h2,h3,h4⟩:=answer_le h
 have e1:=Qcn_n a.Chain h1
 unfold sAns
 cases hs:sLast a.Chain with
 | none =>
  rw [hs] at e1
  simp only [Qhu,un,cur0,e1,oHead,zHead,eHead,List.cons_append,List.nil_append,unP_not,atP_zero,atP_succ,iteP_eq,rt_eq,scs_sc,scs_nil,flat_int,true_and,Bool.not_false,if_true]
 | some p =>
  rw [hs] at e1
  have e2:=Qhk_n p now
  have e3:=Qht_n p label a (last_bounds hs).1 hl h
  simp only [Qhu,un,cur0,e1,e2,e3,oHead,eHead,List.cons_append,List.nil_append,unP_not,binP_neq,bne,beqI,atP_zero,atP_succ,iteP_eq,rt_eq,scs_sc,scs_nil,flat_int,true_and,Bool.not_true,Bool.false_eq_true,if_false]
  cases decide (p.Zone=zone)<;>cases inR now p.Time p.Until<;>cases p.Frozen<;>cases sProved p label a<;>simp) k
def zSgn:GSigned:=⟨zHead,[]⟩
theorem mzS:mSigned zSgn≤1048576:=by decide
def sForkOk (f:GFork):Bool:=if decide (f.A.Head=f.B.Head)=true then false else if decide (f.Before=zSgn)=true then sIsFirst f.A&&(sIsFirst f.B&&decide (f.A.Head.Zone=f.B.Head.Zone)) else sMay f.Before.Head f.A&&sMay f.Before.Head f.B
def fz (c:List GSigned):Int:=match c[0]? with | some s=>s.Head.Zone | none=>0
def hasZ (z:Int) (c:List GSigned):Bool:=match c[0]? with | some s=>decide (s.Head.Zone=z) | none=>false
theorem chain_fst {c:List GSigned} (h:sIsChain c=true):∃s,c[0]? = some s:=by
 obtain ⟨_,_,h0⟩:=chain_has h
 exact ⟨c[0],List.getElem?_eq_getElem h0⟩
abbrev chains (l:List (List GSigned)):PV:=.list 1 (l.map (fun l:List GSigned=>[PV.list 17 (l.map eSigned)]))
theorem Qhe_n (a:GKnown) (z:Int) (h:a.Chains.length≤1048576) (k):call Qhe [.agg (eKnown a),.one (I z)] k=k [I (idx (hasZ z) a.Chains)]:=call_of (fun k=>by
 simp only [Qhe,un,cur0]
 refine lp_find (Q:=fun i=>k [I i]) a.Chains (fun i=>[I z,I 0,I i,chains a.Chains,.list 51 (a.Forks.map eFork)]) (hasZ z) rfl (fun i x hx hi K=>?_) fun K=>?_
 ·unfold hasZ
  cases h0:x[0]? with
  | none =>
   have h1:x=[]:=by cases x with | nil=>rfl | cons s t=>cases h0
   subst h1
   simp [-getElem?_pos,Qhe_r0,hx,hi,wr_succ (show i<1000000000000000000 by omega)]
  | some s =>
   have h1:=lt_of_get h0
   simp [-getElem?_pos,Qhe_r0,hx,hi,h0,wr_succ (show i<1000000000000000000 by omega),show (0:Int)<(x.length:Int) by omega,h1]
 ·simp [Qhe_r0]) k
theorem impl_find_1_n (c:List GSigned) (z:Int) (k):call Qja [.one (.list 17 (c.map eSigned)),.ro (.cells [I z])] k=k [.bool (hasZ z c)]:=call_of (fun k=>by
 unfold hasZ
 cases h0:c[0]? with
 | none =>
  have h1:c=[]:=by cases c with | nil=>rfl | cons s t=>cases h0
  subst h1
  simp [-getElem?_pos,Qja]
 | some s =>
  have h1:=lt_of_get h0
  simp [-getElem?_pos,Qja,h0,beqI,show (0:Int)<(c.length:Int) by omega,h1]) k
theorem impl_find_n (a:GKnown) (z:Int) (h:a.Chains.length≤1048576) (k):call Qjc [.agg (eKnown a),.one (I z)] k=k [I (idx (hasZ z) a.Chains)]:=call_of (fun k=>by
 have e:∀k,call Qjb [.one (chains a.Chains),.fn 387 [.cells [I z]]] k=k [I (idx (hasZ z) a.Chains)]:=call_of (fun k=>by
  simp [Qjb]
  refine lp_find (Q:=fun i=>k [I i]) a.Chains (fun i=>[chains a.Chains,I z,I 0,I a.Chains.length,I i]) (hasZ z) rfl (fun i x hx hi K=>?_) fun K=>?_
  ·simp [-getElem?_pos,Qjb_r0,hx,hi,impl_find_1_n x z,wr_succ (show i<1000000000000000000 by omega)]
  ·simp [Qjb_r0])
 simp only [Qjc,un,cur0,e,atP_zero,rt_eq,scs_sc,scs_nil,flat_int,true_and]) k
def isS (z:Int) (n:ByteArray) (s:GStored):Bool:=decide (s.Zone=z)&&decide (s.Label=n)
theorem Qjt_n (a:GCache) (z:Int) (n:ByteArray) (h:a.Lst.length≤1048576) (k):call Qjt [.agg (eCache a),.one (I z),.one (.str n)] k=k [I (idx (isS z n) a.Lst)]:=call_of (fun k=>by
 simp only [Qjt,un,cur0]
 refine lp_find (Q:=fun i=>k [I i]) a.Lst (fun i=>[I z,.str n,I 0,I i,.list 23 (a.Lst.map eStored)]) (isS z n) rfl (fun i x hx hi K=>?_) fun K=>?_
 ·unfold isS
  simp [-getElem?_pos,Qjt_r0,hx,hi,wr_succ (show i<1000000000000000000 by omega)]
  by_cases h1:x.Zone=z<;>by_cases h2:x.Label=n<;>simp [h1,h2]
 ·simp [Qjt_r0]) k
theorem impl_cfind_1_n (s:GStored) (z:Int) (n:ByteArray) (k):call Qkc [.agg (eStored s),.ro (.cells [I z]),.ro (.cells [.str n])] k=k [.bool (isS z n s)]:=call_of (fun k=>by
 unfold isS
 simp only [Qkc,un,cur0,binP_eql,beqI,binP_seql,iteP_eq,rt_eq,scs_sc,scs_nil,flat_bool,true_and]
 exact stepB fun _=>Iff.rfl) k
theorem impl_cfind_n (a:GCache) (z:Int) (n:ByteArray) (h:a.Lst.length≤1048576) (k):call Qke [.agg (eCache a),.one (I z),.one (.str n)] k=k [I (idx (isS z n) a.Lst)]:=call_of (fun k=>by
 have e:∀k,call Qkd [.one (.list 23 (a.Lst.map eStored)),.fn 285 [.cells [I z],.cells [.str n]]] k=k [I (idx (isS z n) a.Lst)]:=call_of (fun k=>by
  simp [Qkd]
  refine lp_find (Q:=fun i=>k [I i]) a.Lst (fun i=>[.list 23 (a.Lst.map eStored),I z,.str n,I 0,I a.Lst.length,I i]) (isS z n) rfl (fun i x hx hi K=>?_) fun K=>?_
  ·simp [-getElem?_pos,Qkd_r0,hx,hi,impl_cfind_1_n x z n,wr_succ (show i<1000000000000000000 by omega)]
  ·simp [Qkd_r0])
 simp only [Qke,un,cur0,e,atP_zero,rt_eq,scs_sc,scs_nil,flat_int,true_and]) k
theorem Qhg_n (l m:List GSigned) (h:mSignedS l≤1048576) (h':mSignedS m≤1048576) (k):call Qhg [.one (.list 17 (l.map eSigned)),.one (.list 17 (m.map eSigned))] k=k [.bool (sPre l m)]:=call_of (fun k=>by
 have hl0:=len_le h
 have hm0:=len_le h'
 unfold sPre
 by_cases hl:l.length≤m.length
 ·simp only [hl,decide_true,Bool.true_and]
  simp [Qhg,show ¬(m.length:Int)<l.length by omega]
  refine (lp_anyIk k false l (fun i=>[.list 17 (l.map eSigned),.list 17 (m.map eSigned),.bool false,I i]) (preP m) rfl (fun i x hx hi K=>?_) fun K=>?_).trans (by simp)
  ·obtain ⟨y,hy⟩:∃y,m[i]? = some y:=⟨m[i],List.getElem?_eq_getElem (by omega)⟩
   have e:=Qhf_n x.Head y.Head (mHead_le h (mem_get hx)) (mHead_le h' (mem_get hy))
   simp [-getElem?_pos,Qhg_r0,hx,hy,hi,e,preP,wr_succ (show i<1000000000000000000 by omega)]
   all_goals (by_cases hxy:x.Head=y.Head<;>simp [hxy])
  ·simp [Qhg_r0]
 ·simp [Qhg,hl,show (m.length:Int)<l.length by omega]) k
theorem Qje_n (l m:List GSigned) (h:mSignedS l≤1048576) (h':mSignedS m≤1048576) (k):call Qje [.one (.list 17 (l.map eSigned)),.one (.list 17 (m.map eSigned))] k=k [.bool (sPre l m)]:=call_of (fun k=>by
 have hl0:=len_le h
 have hm0:=len_le h'
 unfold sPre
 by_cases hl:l.length≤m.length
 ·simp only [hl,decide_true,Bool.true_and]
  simp [Qje,show ¬(m.length:Int)<l.length by omega]
  refine (lp_anyIk k false l (fun i=>[.list 17 (m.map eSigned),.bool false,.list 17 (l.map eSigned),I l.length,I i]) (preP m) rfl (fun i x hx hi K=>?_) fun K=>?_).trans (by simp)
  ·obtain ⟨y,hy⟩:∃y,m[i]? = some y:=⟨m[i],List.getElem?_eq_getElem (by omega)⟩
   have e:=Qjd_n x.Head y.Head (mHead_le h (mem_get hx)) (mHead_le h' (mem_get hy))
   simp [-getElem?_pos,Qje_r0,hx,hy,hi,e,preP,wr_succ (show i<1000000000000000000 by omega)]
   all_goals (by_cases hxy:x.Head=y.Head<;>simp [hxy])
  ·simp [Qje_r0]
 ·simp [Qje,hl,show (m.length:Int)<l.length by omega]) k
def zFork:GFork:=⟨zSgn,zSgn,zSgn⟩
def fdiff:Nat→List (GSigned×GSigned)→Option (Nat×GSigned×GSigned)
 | _,[]=>none
 | i,(x,y)::l=>if x.Head=y.Head then fdiff (i+1) l else some (i,x,y)
theorem exitL_fdiff (P:Nat→GSigned×GSigned→Prop):∀(i:Nat) (l:List (GSigned×GSigned)),exitL (fun _ q=>!decide (q.1.Head=q.2.Head)) P False i l=match fdiff i l with | some (d,x,y)=>P d (x,y) | none=>False
 | _,[]=>rfl
 | i,(x,y)::l=>by
  rw [exitL,fdiff,exitL_fdiff P (i+1) l]
  by_cases h:x.Head=y.Head<;>simp [h]
theorem fdiff_none:∀(i:Nat) (l:List (GSigned×GSigned)),fdiff i l=none→∀q∈l,q.1.Head=q.2.Head
 | _,[],_,q,hq=>by cases hq
 | i,(x,y)::l,h,q,hq=>by
  rw [fdiff] at h
  split at h
  ·rename_i hxy
   rcases List.mem_cons.1 hq with rfl | hq
   ·exact hxy
   ·exact fdiff_none (i+1) l h q hq
  ·cases h
theorem anyI_none {α:Type} (p:Nat→α→Bool):∀(i:Nat) (l:List α),(∀j x,l[j]? = some x→p (i+j) x=false)→anyI p i l=false
 | _,[],_=>rfl
 | i,x::l,h=>by
  have h0:=h 0 x rfl
  rw [Nat.add_zero] at h0
  rw [anyI,h0,Bool.false_or]
  exact anyI_none p (i+1) l fun j y hy=>by
   have:=h (j+1) y (by simpa using hy)
   rwa [show i+(j+1)=i+1+j by omega] at this
theorem zip_get {l m:List GSigned} {i:Nat} {x y:GSigned} (hx:l[i]? = some x) (hy:m[i]? = some y):(x,y)∈l.zip m:=by
 apply List.mem_of_getElem? (i:=i)
 rw [List.getElem?_zip_eq_some]
 exact ⟨hx,hy⟩
theorem pre_of_same {l m:List GSigned} (h:∀q∈l.zip m,q.1.Head=q.2.Head) (hl:l.length≤m.length):sPre l m=true:=by
 unfold sPre
 have:anyI (preP m) 0 l=false:=anyI_none _ 0 l fun j x hx=>by
  have hj:=lt_of_get hx
  have hy:m[j]? = some m[j]:=List.getElem?_eq_getElem (by omega)
  have:=h _ (zip_get hx hy)
  rw [Nat.zero_add]
  unfold preP
  rw [hy]
  simp only [Bool.not_eq_false',decide_eq_true_eq]
  exact this
 rw [this]
 simp [hl]
theorem fdiff_some {l m:List GSigned} (h1:sPre l m=false) (h2:sPre m l=false):∃d x y,fdiff 0 (l.zip m)=some (d,x,y):=by
 cases h:fdiff 0 (l.zip m) with
 | some q=>exact ⟨q.1,q.2.1,q.2.2,rfl⟩
 | none =>
  have h3:=fdiff_none 0 _ h
  rcases Nat.le_total l.length m.length with h4 | h4
  ·rw [pre_of_same h3 h4] at h1;cases h1
  ·rw [pre_of_same (l:=m) (m:=l) (fun q hq=>by
    obtain ⟨i,hi⟩:=List.mem_iff_getElem?.1 hq
    rw [List.getElem?_zip_eq_some] at hi
    exact (h3 _ (zip_get hi.2 hi.1)).symm) h4] at h2
   cases h2
def befS (l:List GSigned) (d:Nat):GSigned:=if d=0 then zSgn else match l[d-1]? with | some z=>z | none=>zSgn
def sForkIn (l m:List GSigned):Option GFork:=if sIsChain l=true then (if sIsChain m=true then
 (match l[0]?,m[0]? with
  | some x,some y=>if decide (x.Head.Zone=y.Head.Zone)=true then (if sPre l m=true then none else if sPre m l=true then none else
   match fdiff 0 (l.zip m) with | some (d,x,y)=>some ⟨befS l d,x,y⟩ | none=>none) else none
  | _,_=>none) else none) else none
def oFork:Option GFork→List PV
 | some f=>eFork f++[.bool true]
 | none=>eFork zFork++[.bool false]
theorem Qjg_n (l m:List GSigned) (h:mSignedS l≤1048576) (h':mSignedS m≤1048576) (k):call Qjg [.one (.list 17 (l.map eSigned)),.one (.list 17 (m.map eSigned))] k=k (oFork (sForkIn l m)):=call_of (fun k=>by
 have e1:=Qfi_n l h
 have e2:=Qfi_n m h'
 have e3:=Qje_n l m h h'
 have e4:=Qje_n m l h' h
 have hl:=(chain_le h).2
 have hm:=(chain_le h').2
 have hll:=(chain_le h).1
 have hlm:=(chain_le h').1
 unfold sForkIn
 cases c1:sIsChain l with
 | false=>simp [Qjg,e1,c1,oFork,zFork,zSgn,zHead,ints]
 | true =>
 cases c2:sIsChain m with
 | false=>simp [Qjg,e1,e2,c1,c2,oFork,zFork,zSgn,zHead,ints]
 | true =>
 obtain ⟨x0,hx0⟩:=chain_fst c1
 obtain ⟨y0,hy0⟩:=chain_fst c2
 rw [hx0,hy0]
 by_cases c3:x0.Head.Zone=y0.Head.Zone
 rotate_left
 ·simp [-getElem?_pos,Qjg,e1,e2,c1,c2,hx0,hy0,c3,oFork,zFork,zSgn,zHead,ints]
 cases c4:sPre l m with
 | true=>simp [-getElem?_pos,Qjg,e1,e2,e3,c1,c2,hx0,hy0,c3,c4,oFork,zFork,zSgn,zHead,ints]
 | false =>
 cases c5:sPre m l with
 | true=>simp [-getElem?_pos,Qjg,e1,e2,e3,e4,c1,c2,hx0,hy0,c3,c4,c5,oFork,zFork,zSgn,zHead,ints]
 | false =>
 obtain ⟨d,x,y,hd⟩:=fdiff_some c4 c5
 simp only [Qjg,e1,e2,e3,e4,c1,c2,c4,c5,elemP_map,Int.toNat_zero,hx0,hy0,oP_some,atP_zero,atP_succ,unP_not,binP_neq,bne,beqI,c3,decide_true,Bool.not_true,Bool.false_eq_true,if_false,if_true,iteP_eq,Int.le_refl,show (0:Int)≤0 by omega,true_and]
 have key:=exitL_fdiff (fun d q=>k (oFork (some ⟨befS l d,q.1,q.2⟩))) 0 (l.zip m)
 rw [hd] at key
 simp only at key
 rw [hd]
 refine Iff.trans ?_ (Iff.of_eq key)
 refine lp_exit (l.zip m) (fun i=>[.list 17 (l.map eSigned),.list 17 (m.map eSigned),.bool false,I i,(I 0),(I 0),(I 0),(I 0),(I 0),(I 0),(I 0),(I 0),(I 0),(I 0),(I 0),(I 0),(.bool false),(I 0),(I 0),(I 0),(I 0),(I 0),(I 0),(I 0),(I 0),(I 0),(I 0),(I 0),(I 0),(.bool false),(I 0),(I 0),(I 0),(I 0),(I 0),(I 0),(I 0),(I 0),(I 0),(I 0),(I 0),(I 0),(.bool false),(.list 2 []),(.list 1 []),(.list 1 []),(.list 1 []),(.list 2 []),(.list 1 []),(.list 1 []),(.list 1 []),(.list 2 []),(.list 1 []),(.list 1 []),(.list 1 [])]) (fun _ q=>!decide (q.1.Head=q.2.Head)) (fun d q=>k (oFork (some ⟨befS l d,q.1,q.2⟩))) rfl (fun i q hq K=>?_) fun K=>?_
 ·obtain ⟨x,y⟩:=q
  obtain ⟨hx,hy⟩:=List.getElem?_zip_eq_some.1 hq
  have q1:=Qjd_n x.Head y.Head (signed_le (hl x (mem_get hx))).1 (signed_le (hm y (mem_get hy))).1
  have q2:=Qdk_n x (hl x (mem_get hx))
  have q3:=Qdk_n y (hm y (mem_get hy))
  have hil:=lt_of_get hx
  have him:=lt_of_get hy
  by_cases hxy:x.Head=y.Head
  ·have hxy':decide (x.Head=y.Head)=true:=by simp [hxy]
   rw [hxy'] at q1
   simp [-getElem?_pos,Qjg_r0,hx,hy,q1,hxy',hil,him,wr_succ (show i<1000000000000000000 by omega)]
  ·have hxy':decide (x.Head=y.Head)=false:=by simp [hxy]
   rw [hxy'] at q1
   unfold befS
   by_cases h0:i=0
   ·subst h0
    simp [-getElem?_pos,Qjg_r0,hx,hy,q1,q2,q3,hxy',hil,him,oFork,zSgn,zHead,ints]
   ·obtain ⟨z,hz⟩:∃z,l[i-1]? = some z:=⟨l[i-1],List.getElem?_eq_getElem (by omega)⟩
    have q4:=Qdk_n z (hl z (mem_get hz))
    simp [-getElem?_pos,Qjg_r0,hx,hy,hz,q1,q2,q3,q4,hxy',hil,him,oFork,h0,show (0:Int)<(i:Int) by omega,show 0<i by omega,wr_pred (show 0<i by omega) (show i<1000000000000000000 by omega)]
 ·have:(l.zip m)[(l.zip m).length]? = none:=by simp
  have hq:l[(l.zip m).length]? = none∨m[(l.zip m).length]? = none:=by
   simp only [List.length_zip,List.getElem?_eq_none_iff];omega
  generalize (l.zip m).length=n at hq
  cases hx:l[n]? with
  | none=>simp [-getElem?_pos,Qjg_r0,hx]
  | some x =>
   have hy:m[n]? = none:=by rcases hq with h | h;(rw [hx] at h;cases h);exact h
   simp [-getElem?_pos,Qjg_r0,hx,hy]) k
theorem Qhi_n (l m:List GSigned) (h:mSignedS l≤1048576) (h':mSignedS m≤1048576) (k):call Qhi [.one (.list 17 (l.map eSigned)),.one (.list 17 (m.map eSigned))] k=k (oFork (sForkIn l m)):=call_of (fun k=>by
 have e1:=Qcm_n l h
 have e2:=Qcm_n m h'
 have e3:=Qhg_n l m h h'
 have e4:=Qhg_n m l h' h
 have hl:=(chain_le h).2
 have hm:=(chain_le h').2
 have hll:=(chain_le h).1
 have hlm:=(chain_le h').1
 unfold sForkIn
 cases c1:sIsChain l with
 | false=>simp [Qhi,e1,c1,oFork,zFork,zSgn,zHead,ints]
 | true =>
 cases c2:sIsChain m with
 | false=>simp [Qhi,e1,e2,c1,c2,oFork,zFork,zSgn,zHead,ints]
 | true =>
 obtain ⟨x0,hx0⟩:=chain_fst c1
 obtain ⟨y0,hy0⟩:=chain_fst c2
 rw [hx0,hy0]
 by_cases c3:x0.Head.Zone=y0.Head.Zone
 rotate_left
 ·simp [-getElem?_pos,Qhi,e1,e2,c1,c2,hx0,hy0,c3,oFork,zFork,zSgn,zHead,ints]
 cases c4:sPre l m with
 | true=>simp [-getElem?_pos,Qhi,e1,e2,e3,c1,c2,hx0,hy0,c3,c4,oFork,zFork,zSgn,zHead,ints]
 | false =>
 cases c5:sPre m l with
 | true=>simp [-getElem?_pos,Qhi,e1,e2,e3,e4,c1,c2,hx0,hy0,c3,c4,c5,oFork,zFork,zSgn,zHead,ints]
 | false =>
 obtain ⟨d,x,y,hd⟩:=fdiff_some c4 c5
 simp only [Qhi,e1,e2,e3,e4,c1,c2,c4,c5,elemP_map,Int.toNat_zero,hx0,hy0,oP_some,atP_zero,atP_succ,unP_not,binP_neq,bne,beqI,c3,decide_true,Bool.not_true,Bool.false_eq_true,if_false,if_true,iteP_eq,Int.le_refl,show (0:Int)≤0 by omega,true_and]
 have key:=exitL_fdiff (fun d q=>k (oFork (some ⟨befS l d,q.1,q.2⟩))) 0 (l.zip m)
 rw [hd] at key
 simp only at key
 rw [hd]
 refine Iff.trans ?_ (Iff.of_eq key)
 refine lp_exit (l.zip m) (fun i=>[.list 17 (l.map eSigned),.list 17 (m.map eSigned),.bool false,I i,(I 0),(I 0),(I 0),(I 0),(I 0),(I 0),(I 0),(I 0),(I 0),(I 0),(I 0),(I 0),(.bool false),(I 0),(I 0),(I 0),(I 0),(I 0),(I 0),(I 0),(I 0),(I 0),(I 0),(I 0),(I 0),(.bool false),(I 0),(I 0),(I 0),(I 0),(I 0),(I 0),(I 0),(I 0),(I 0),(I 0),(I 0),(I 0),(.bool false),(.list 2 []),(.list 1 []),(.list 1 []),(.list 1 []),(.list 2 []),(.list 1 []),(.list 1 []),(.list 1 []),(.list 2 []),(.list 1 []),(.list 1 []),(.list 1 [])]) (fun _ q=>!decide (q.1.Head=q.2.Head)) (fun d q=>k (oFork (some ⟨befS l d,q.1,q.2⟩))) rfl (fun i q hq K=>?_) fun K=>?_
 ·obtain ⟨x,y⟩:=q
  obtain ⟨hx,hy⟩:=List.getElem?_zip_eq_some.1 hq
  have q1:=Qhf_n x.Head y.Head (signed_le (hl x (mem_get hx))).1 (signed_le (hm y (mem_get hy))).1
  have q2:=Qbd_n x (hl x (mem_get hx))
  have q3:=Qbd_n y (hm y (mem_get hy))
  have hil:=lt_of_get hx
  have him:=lt_of_get hy
  by_cases hxy:x.Head=y.Head
  ·have hxy':decide (x.Head=y.Head)=true:=by simp [hxy]
   rw [hxy'] at q1
   simp [-getElem?_pos,Qhi_r0,hx,hy,q1,hxy',hil,him,wr_succ (show i<1000000000000000000 by omega)]
  ·have hxy':decide (x.Head=y.Head)=false:=by simp [hxy]
   rw [hxy'] at q1
   unfold befS
   by_cases h0:i=0
   ·subst h0
    simp [-getElem?_pos,Qhi_r0,hx,hy,q1,q2,q3,hxy',hil,him,oFork,zSgn,zHead,ints]
   ·obtain ⟨z,hz⟩:∃z,l[i-1]? = some z:=⟨l[i-1],List.getElem?_eq_getElem (by omega)⟩
    have q4:=Qbd_n z (hl z (mem_get hz))
    simp [-getElem?_pos,Qhi_r0,hx,hy,hz,q1,q2,q3,q4,hxy',hil,him,oFork,h0,show (0:Int)<(i:Int) by omega,show 0<i by omega,wr_pred (show 0<i by omega) (show i<1000000000000000000 by omega)]
 ·have hq:l[(l.zip m).length]? = none∨m[(l.zip m).length]? = none:=by
   simp only [List.length_zip,List.getElem?_eq_none_iff];omega
  generalize (l.zip m).length=n at hq
  cases hx:l[n]? with
  | none =>
   have hn:¬(n:Int)<(l.length:Int):=by have:=List.getElem?_eq_none_iff.1 hx;omega
   simp [-getElem?_pos,Qhi_r0,hx,show ¬n<l.length by omega]
  | some x =>
   have hy:m[n]? = none:=by rcases hq with h | h;(rw [hx] at h;cases h);exact h
   have h1:=lt_of_get hx
   have hn:¬(n:Int)<(m.length:Int):=by have:=List.getElem?_eq_none_iff.1 hy;omega
   have c:=Qbd_n x (hl x (mem_get hx))
   simp [-getElem?_pos,Qhi_r0,hx,hy,h1,show ¬n<m.length by omega,c]) k
end Go.Ev
set_option linter.unusedVariables false
set_option linter.unusedSimpArgs false
set_option maxRecDepth 8000
set_option maxHeartbeats 2000000
namespace Go.Ev
open Go.Proofs
theorem sMay_zone {p:GHead} {s:GSigned} (h:sMay p s=true):s.Head.Zone=p.Zone:=by
 unfold sMay sCode at h
 simp only [decide_eq_true_eq] at h
 by_cases h1:sIsHead p=true
 rotate_left
 ·rw [if_neg h1] at h;exact absurd h (by decide)
 rw [if_pos h1] at h
 by_cases h2:sIsHead s.Head=true
 rotate_left
 ·rw [if_neg h2] at h;exact absurd h (by decide)
 rw [if_pos h2] at h
 by_cases h3:sNext p s.Head=true
 ·unfold sNext at h3
  simp only [Bool.and_eq_true,decide_eq_true_eq] at h3
  exact h3.1
 ·rw [if_neg h3] at h;exact absurd h (by decide)
theorem findX_ge {α:Type} {p:Nat→α→Bool}:∀{l:List α} {n:Nat},findX p n l<0→∀i x,l[i]? = some x→p (n+i) x=false
 | [],n,h,i,x,hx=>by cases hx
 | y::l,n,h,i,x,hx=>by
  rw [findX] at h
  by_cases hp:p n y=true
  ·rw [if_pos hp] at h;omega
  ·rw [if_neg hp] at h
   cases i with
   | zero=>cases hx;simpa using hp
   | succ i=>rw [show n+(i+1)=n+1+i by omega];exact findX_ge h i x hx
theorem chain_zone {l:List GSigned} (h:sIsChain l=true):∀(i:Nat) (x:GSigned),l[i]? = some x→x.Head.Zone=fz l:=by
 unfold sIsChain sFW at h
 simp only [Bool.and_eq_true,decide_eq_true_eq] at h
 have hw:=findX_ge h.2
 intro i
 induction i with
 | zero=>intro x hx;simp [fz,hx]
 | succ i ih =>
  intro x hx
  have h1:=hw (i+1) x hx
  have hl:=lt_of_get hx
  obtain ⟨y,hy⟩:∃y,l[i]? = some y:=⟨l[i],List.getElem?_eq_getElem (by omega)⟩
  simp only [wrongP,Nat.zero_add,show ¬(i+1=0) by omega,if_false,Nat.add_sub_cancel,hy,Bool.not_eq_false'] at h1
  rw [sMay_zone h1]
  exact ih y hy
theorem last_zone {l:List GSigned} {p:GHead} (h:sLast l=some p):sIsChain l=true∧p.Zone=fz l:=by
 unfold sLast at h
 by_cases hc:sIsChain l=true
 ·rw [if_pos hc] at h
  obtain ⟨x,hx,_⟩:=chain_has hc
  rw [hx] at h
  cases h
  exact ⟨hc,chain_zone hc _ x hx⟩
 ·rw [if_neg hc] at h;cases h
def FB (f:GFork):Prop:=mSigned f.Before≤1048576∧mSigned f.A≤1048576∧mSigned f.B≤1048576
def KB (a:GKnown):Prop:=a.Chains.length≤1048576∧(∀c∈a.Chains,mSignedS c≤1048576)∧a.Forks.length≤1048576∧∀f∈a.Forks,FB f
def SB (s:GStored):Prop:=s.Label.size≤1048576∧mAnswer s.Answer≤1048576
def CB (c:GCache):Prop:=c.Lst.length≤1048576∧∀s∈c.Lst,SB s
def kI (k:GKnown) (c:List GSigned):Int:=idx (hasZ (fz c)) k.Chains
def kC (k:GKnown) (c:List GSigned):List GSigned:=k.Chains.getD (kI k c).toNat []
def sMeet (k:GKnown) (c:List GSigned):Int :=
 if sIsChain c=true then (if decide (kI k c<0)=true then 1 else
  if (sPre (kC k c) c&&sPre c (kC k c))=true then 2 else if sPre (kC k c) c=true then 3 else if sPre c (kC k c)=true then 4 else 5) else 6
def sLearn (k:GKnown) (c:List GSigned):GKnown×Int :=
 if sMeet k c=1 then (if (8:Int)≤k.Chains.length then (k,6) else (⟨k.Chains++[c],k.Forks⟩,1))
 else if sMeet k c=3 then (⟨k.Chains.set (kI k c).toNat c,k.Forks⟩,3)
 else if sMeet k c=5 then (match sForkIn (kC k c) c with | some f=>if (k.Forks.length:Int)<8 then (⟨k.Chains,k.Forks++[f]⟩,5) else (k,5) | none=>(k,5))
 else (k,sMeet k c)
def sFZ (f:GFork):Int:=if sForkOk f=true then f.A.Head.Zone else -1
def sForked (k:GKnown) (z:Int):Bool:=decide (0≤z)&&k.Forks.any (fun f=>decide (sFZ f=z))
def sMet (k:GKnown) (a:GAnswer) (z:Int):GKnown×Int:=if (sIsChain a.Chain&&decide (fz a.Chain=z))=true then sLearn k a.Chain else (k,6)
def sExC (k:GKnown) (a:GAnswer) (z:Int) (s:ByteArray) (now:Int):Int :=
 if (decide (sAns z s a now=1)&&!(inR (sMet k a z).2 1 3&&!sForked (sMet k a z).1 z))=true then 3 else sAns z s a now
theorem fdiff_mem {l m:List GSigned} {d:Nat} {x y:GSigned}:∀{i:Nat} {z:List (GSigned×GSigned)},fdiff i z=some (d,x,y)→(x,y)∈z
 | _,[],h=>by cases h
 | i,(a,b)::z,h=>by
  rw [fdiff] at h
  split at h
  ·exact List.mem_cons_of_mem _ (fdiff_mem (l:=l) (m:=m) h)
  ·cases h;exact List.mem_cons_self
theorem fork_FB {l m:List GSigned} {f:GFork} (hl:mSignedS l≤1048576) (hm:mSignedS m≤1048576) (h:sForkIn l m=some f):FB f:=by
 unfold sForkIn at h
 split at h
 rotate_left
 ·cases h
 split at h
 rotate_left
 ·cases h
 split at h
 rotate_left
 ·cases h
 split at h
 rotate_left
 ·cases h
 split at h
 ·cases h
 split at h
 ·cases h
 split at h
 rotate_left
 ·cases h
 rename_i d x y hd
 cases h
 have hz:=fdiff_mem (l:=l) (m:=m) hd
 have hx:=(List.of_mem_zip hz).1
 have hy:=(List.of_mem_zip hz).2
 refine ⟨?_,(chain_le hl).2 _ hx,(chain_le hm).2 _ hy⟩
 show mSigned (befS l d)≤1048576
 unfold befS
 split
 ·exact mzS
 ·split
  ·rename_i z hz;exact (chain_le hl).2 _ (List.mem_of_getElem? hz)
  ·exact mzS
theorem meet_range {k:GKnown} {c:List GSigned}:1≤sMeet k c∧sMeet k c≤6:=by
 unfold sMeet
 repeat' split
 all_goals omega
theorem KB_learn {k:GKnown} {c:List GSigned} (hk:KB k) (hc:mSignedS c≤1048576):KB (sLearn k c).1:=by
 obtain ⟨h1,h2,h3,h4⟩:=hk
 unfold sLearn
 split
 ·split
  ·exact ⟨h1,h2,h3,h4⟩
  ·refine ⟨by simp;omega,fun x hx=>?_,h3,h4⟩
   rcases List.mem_append.1 hx with hx | hx
   ·exact h2 x hx
   ·rw [List.mem_singleton.1 hx];exact hc
 split
 ·refine ⟨by simpa using h1,fun x hx=>?_,h3,h4⟩
  rcases List.mem_or_eq_of_mem_set hx with hx | hx
  ·exact h2 x hx
  ·rw [hx];exact hc
 split
 ·split
  ·rename_i f hf
   split
   ·refine ⟨h1,h2,by simp;omega,fun x hx=>?_⟩
    rcases List.mem_append.1 hx with hx | hx
    ·exact h4 x hx
    ·rw [List.mem_singleton.1 hx]
     refine fork_FB ?_ hc hf
     unfold kC
     rw [List.getD_eq_getElem?_getD]
     cases hq:k.Chains[(kI k c).toNat]? with
     | none=>simp [mSignedS,sumN]
     | some q=>exact h2 q (List.mem_of_getElem? hq)
   ·exact ⟨h1,h2,h3,h4⟩
  ·exact ⟨h1,h2,h3,h4⟩
 ·exact ⟨h1,h2,h3,h4⟩
theorem KB_met {k:GKnown} {a:GAnswer} {z:Int} (hk:KB k) (ha:mAnswer a≤1048576):KB (sMet k a z).1:=by
 unfold sMet
 split
 ·exact KB_learn hk (answer_le ha).1
 ·exact hk
def sLook (z:Int) (s:ByteArray) (now:Int):GKnown→List Int→Nat→List GAnswer→GKnown×List Int×Option (Nat×GAnswer)
 | k,cs,_,[]=>(k,cs,none)
 | k,cs,i,a::r=>if sExC k a z s now=1 then ((sMet k a z).1,cs++[sExC k a z s now],some (i,a)) else sLook z s now (sMet k a z).1 (cs++[sExC k a z s now]) (i+1) r
theorem look_KB {z:Int} {s:ByteArray} {now:Int}:∀{l:List GAnswer} {k:GKnown} {cs:List Int} {i:Nat},KB k→(∀a∈l,mAnswer a≤1048576)→KB (sLook z s now k cs i l).1
 | [],k,cs,i,hk,_=>hk
 | a::r,k,cs,i,hk,hl=>by
  rw [sLook]
  have h1:=KB_met (z:=z) hk (hl a List.mem_cons_self)
  split
  ·exact h1
  ·exact look_KB h1 fun x hx=>hl x (List.mem_cons_of_mem _ hx)
theorem look_at {z:Int} {s:ByteArray} {now:Int}:∀{l:List GAnswer} {k:GKnown} {cs:List Int} {i j:Nat} {a:GAnswer},(sLook z s now k cs i l).2.2=some (j,a)→i≤j∧l[j-i]? = some a∧(sLook z s now k cs i l).2.1.length=cs.length+(j-i)+1
 | [],k,cs,i,j,a,h=>by cases h
 | b::r,k,cs,i,j,a,h=>by
  rw [sLook] at h ⊢
  split at h
  ·rename_i hc
   rw [if_pos hc]
   cases h
   simp
  ·rename_i hc
   rw [if_neg hc]
   obtain ⟨h1,h2,h3⟩:=look_at h
   refine ⟨by omega,?_,?_⟩
   ·rw [show j-i=(j-(i+1))+1 by omega,List.getElem?_cons_succ];exact h2
   ·rw [h3];simp;omega
def zAnsw:GAnswer:=⟨[],false,zEntry,zProof,zGap⟩
def sFrom (c:GCache) (z:Int) (s:ByteArray):GAnswer:=match c.Lst[(idx (isS z s) c.Lst).toNat]? with
 | some x=>if decide (idx (isS z s) c.Lst<0)=true then zAnsw else x.Answer
 | none=>zAnsw
def sKeep (c:GCache) (z:Int) (s:ByteArray) (a:GAnswer) (now:Int):GCache :=
 if sAns z s a now=1 then (if decide (0≤idx (isS z s) c.Lst)=true then ⟨c.Lst.set (idx (isS z s) c.Lst).toNat ⟨z,s,a⟩⟩ else if (c.Lst.length:Int)<16 then ⟨c.Lst++[⟨z,s,a⟩]⟩ else c) else c
theorem mzA:mAnswer zAnsw≤1048576:=by decide
theorem from_le {c:GCache} {z:Int} {s:ByteArray} (h:CB c):mAnswer (sFrom c z s)≤1048576:=by
 unfold sFrom
 split
 ·rename_i x hx
  split
  ·exact mzA
  ·exact (h.2 x (List.mem_of_getElem? hx)).2
 ·exact mzA
theorem CB_keep {c:GCache} {z:Int} {s:ByteArray} {a:GAnswer} {now:Int} (h:CB c) (hs:s.size≤1048576) (ha:mAnswer a≤1048576):CB (sKeep c z s a now):=by
 obtain ⟨h1,h2⟩:=h
 unfold sKeep
 split
 rotate_left
 ·exact ⟨h1,h2⟩
 split
 ·refine ⟨by simpa using h1,fun x hx=>?_⟩
  rcases List.mem_or_eq_of_mem_set hx with hx | hx
  ·exact h2 x hx
  ·rw [hx];exact ⟨hs,ha⟩
 split
 ·refine ⟨by simp;omega,fun x hx=>?_⟩
  rcases List.mem_append.1 hx with hx | hx
  ·exact h2 x hx
  ·rw [List.mem_singleton.1 hx];exact ⟨hs,ha⟩
 ·exact ⟨h1,h2⟩
structure RSt where
 k:GKnown
 c:GCache
 z:Int
 path:List ByteArray
 mv:Int
 zs:List Int
structure ROut where
 k:GKnown
 c:GCache
 code:Int
 e:GEntry
 zs:List Int
 mv:Int
def sFirstS (l:List ByteArray):ByteArray:=match l[0]? with | some s=>s | none=>⟨#[]⟩
def sAnsL (ask:Int→ByteArray→List GAnswer) (t:RSt):List GAnswer:=sFrom t.c t.z (sFirstS t.path)::ask t.z (sFirstS t.path)
def sLk (ask:Int→ByteArray→List GAnswer) (now:Int) (t:RSt):=sLook t.z (sFirstS t.path) now t.k [] 0 (sAnsL ask t)
def sCa (ask:Int→ByteArray→List GAnswer) (now:Int) (t:RSt):GCache:=match (sLk ask now t).2.2 with
 | some (_,a)=>sKeep t.c t.z (sFirstS t.path) a now
 | none=>t.c
def sStep (ask:Int→ByteArray→List GAnswer) (now:Int) (t:RSt):ROut ⊕ RSt :=
 match (sLk ask now t).2.2 with
 | none=>.inl ⟨(sLk ask now t).1,sCa ask now t,3,zEntry,t.zs++[t.z],t.mv⟩
 | some (_,a) =>
  if a.Found=false then .inl ⟨(sLk ask now t).1,sCa ask now t,2,zEntry,t.zs++[t.z],t.mv⟩ else
  if a.Entry.Kind=3 then
   (if (decide (3≤t.mv)||!sIsPath (a.Entry.Path++t.path.drop 1))=true then .inl ⟨(sLk ask now t).1,sCa ask now t,5,zEntry,t.zs++[t.z],t.mv⟩
    else .inr ⟨(sLk ask now t).1,sCa ask now t,a.Entry.Value,a.Entry.Path++t.path.drop 1,t.mv+1,t.zs++[t.z]⟩)
  else if (t.path.drop 1).length=0 then .inl ⟨(sLk ask now t).1,sCa ask now t,1,a.Entry,t.zs++[t.z],t.mv⟩
  else if a.Entry.Kind=2 then .inr ⟨(sLk ask now t).1,sCa ask now t,a.Entry.Value,t.path.drop 1,t.mv,t.zs++[t.z]⟩
  else .inl ⟨(sLk ask now t).1,sCa ask now t,4,zEntry,t.zs++[t.z],t.mv⟩
def sWalk (ask:Int→ByteArray→List GAnswer) (now:Int):Nat→RSt→ROut
 | 0,t=>⟨t.k,t.c,0,zEntry,t.zs,t.mv⟩
 | n+1,t=>match sStep ask now t with
  | .inl o=>o
  | .inr t=>sWalk ask now n t
def mu (t:RSt):Nat:=(3-t.mv).toNat*5+t.path.length
structure PB (p:List ByteArray):Prop where
 pos:1≤p.length
 le:p.length≤4
 lab:∀s∈p,sLabel s=true
theorem isPath_PB {p:List ByteArray} (h:sIsPath p=true):PB p:=by
 unfold sIsPath inR at h
 simp only [Bool.and_eq_true,decide_eq_true_eq,Bool.not_eq_true',List.any_eq_false,Bool.not_eq_false'] at h
 exact ⟨by omega,by omega,fun s hs=>by simpa using h.2 s hs⟩
theorem label_le {s:ByteArray} (h:sLabel s=true):s.size≤8:=by
 unfold sLabel inR at h
 simp only [Bool.and_eq_true,decide_eq_true_eq] at h
 omega
structure RI (t:RSt):Prop where
 k:KB t.k
 c:CB t.c
 p:PB t.path
 mv0:0≤t.mv
 mv3:t.mv≤3
 zs:t.zs.length+mu t≤1000
theorem PB.first {p:List ByteArray} (h:PB p):∃s r,p=s::r∧sFirstS p=s∧s.size≤1048576∧sLabel s=true:=by
 cases p with
 | nil=>have:=h.pos;simp at this
 | cons s r =>
  have:=h.lab s List.mem_cons_self
  exact ⟨s,r,rfl,rfl,by have:=label_le this;omega,this⟩
theorem ansL_le {ask:Int→ByteArray→List GAnswer} {t:RSt} (hA:∀z s,∀a∈ask z s,mAnswer a≤1048576) (h:RI t):∀a∈sAnsL ask t,mAnswer a≤1048576:=by
 intro a ha
 unfold sAnsL at ha
 rcases List.mem_cons.1 ha with rfl | ha
 ·exact from_le h.c
 ·exact hA _ _ a ha
theorem ca_CB {ask:Int→ByteArray→List GAnswer} {now:Int} {t:RSt} (hA:∀z s,∀a∈ask z s,mAnswer a≤1048576) (h:RI t):CB (sCa ask now t):=by
 unfold sCa
 split
 ·rename_i i a hl
  obtain ⟨s,r,hp,hf,hs,_⟩:=h.p.first
  have ha:=(look_at (show (sLook t.z (sFirstS t.path) now t.k [] 0 (sAnsL ask t)).2.2=some (i,a) from hl)).2.1
  exact CB_keep h.c (by rw [hf];exact hs) (ansL_le hA h a (List.mem_of_getElem? ha))
 ·exact h.c
theorem step_ok {ask:Int→ByteArray→List GAnswer} {now:Int} {t t':RSt} (hA:∀z s,∀a∈ask z s,mAnswer a≤1048576) (h:RI t) (hs:sStep ask now t=.inr t'):RI t'∧mu t'<mu t∧t'.zs=t.zs++[t.z]:=by
 have hk:KB (sLk ask now t).1:=look_KB h.k (ansL_le hA h)
 have hc:=ca_CB (now:=now) hA h
 have hz:=h.zs
 have h0:=h.mv0
 have h3:=h.mv3
 have hp:=h.p.pos
 unfold sStep at hs
 split at hs
 ·cases hs
 split at hs
 ·cases hs
 split at hs
 ·split at hs
  ·cases hs
  ·rename_i hb
   simp only [Bool.or_eq_true,decide_eq_true_eq,Bool.not_eq_true',not_or,Bool.not_eq_false] at hb
   cases hs
   have hpb:=isPath_PB hb.2
   have hple:=hpb.le
   have hm:mu (⟨(sLk ask now t).1,sCa ask now t,‹GAnswer›.Entry.Value,‹GAnswer›.Entry.Path++t.path.drop 1,t.mv+1,t.zs++[t.z]⟩:RSt)<mu t:=by
    unfold mu
    simp only
    have:(3-t.mv).toNat=(3-(t.mv+1)).toNat+1:=by omega
    omega
   exact ⟨⟨hk,hc,hpb,by simp only;omega,by simp only;omega,by simp only [List.length_append,List.length_singleton];omega⟩,hm,rfl⟩
 split at hs
 ·cases hs
 rename_i hr
 split at hs
 rotate_left
 ·cases hs
 cases hs
 obtain ⟨s,r,hp1,_,_,_⟩:=h.p.first
 have hpl:=h.p.le
 rw [hp1] at hr hpl
 simp only [List.drop_succ_cons,List.drop_zero,List.length_cons] at hr hpl
 have hm:mu (⟨(sLk ask now t).1,sCa ask now t,‹GAnswer›.Entry.Value,t.path.drop 1,t.mv,t.zs++[t.z]⟩:RSt)<mu t:=by
  unfold mu
  rw [hp1]
  simp
 refine ⟨⟨hk,hc,⟨?_,?_,fun x hx=>?_⟩,h0,h3,by simp only [List.length_append,List.length_singleton];omega⟩,hm,rfl⟩
 ·simp only [hp1,List.drop_succ_cons,List.drop_zero];omega
 ·simp only [hp1,List.drop_succ_cons,List.drop_zero];omega
 ·exact h.p.lab x (List.mem_of_mem_drop hx)
theorem impl_copyFork_b (f:GFork) (h:FB f) (k):call Qdo [.agg (eFork f)] k=k (eFork f):=call_of (fun k=>by
 obtain ⟨h1,h2,h3⟩:=h
 simp [Qdo,Qdk_n f.Before h1,Qdk_n f.A h2,Qdk_n f.B h3]) k
theorem spec_l18Copy_b (f:GFork) (h:FB f) (k):call Qbf [.agg (eFork f)] k=k (eFork f):=call_of (fun k=>by
 obtain ⟨h1,h2,h3⟩:=h
 simp [Qbf,Qbd_n f.Before h1,Qbd_n f.A h2,Qbd_n f.B h3]) k
theorem impl_copyKnown_b (a:GKnown) (h:KB a) (k):call Qdp [.agg (eKnown a)] k=k (eKnown a):=call_of (fun k=>by
 obtain ⟨hc,hc0,hf,hf0⟩:=h
 simp [Qdp]
 refine lp_list a.Chains (fun i=>[(.list 1 (a.Chains.map eChainR)),I a.Chains.length,I i,(.list 1 (a.Chains.map eChainR)),(.list 51 (a.Forks.map eFork)),.list 51 [],.list 1 [],.list 51 [],.list 1 ((a.Chains.take i).map eChainR)]) (by simp) (fun i x hx hi K=>?_) fun K=>?_
 ·have e:=Qdl_n x (hc0 x (List.mem_of_getElem? hx))
  rw [take_snoc hx,List.map_append]
  simp [-getElem?_pos,Qdp_r0,hx,hi,e,wr_succ (show i<1000000000000000000 by omega)]
  try omega
 ·simp [Qdp_r0]
  refine lp_list a.Forks (fun i=>[(.list 1 (a.Chains.map eChainR)),I a.Chains.length,I a.Chains.length,(.list 51 (a.Forks.map eFork)),I a.Forks.length,I i,(.list 1 (a.Chains.map eChainR)),(.list 51 (a.Forks.map eFork)),.list 51 [],.list 1 [],.list 51 ((a.Forks.take i).map eFork),(.list 1 (a.Chains.map eChainR))]) (by simp) (fun i x hx hi K=>?_) fun K=>?_
  ·have e:=impl_copyFork_b x (hf0 x (List.mem_of_getElem? hx))
   rw [take_snoc hx,List.map_append]
   simp [-getElem?_pos,Qdp_r1,hx,hi,e,wr_succ (show i<1000000000000000000 by omega)]
   try omega
  ·simp [Qdp_r1]) k
theorem spec_l22Copy_b (a:GKnown) (h:KB a) (k):call Qbg [.agg (eKnown a)] k=k (eKnown a):=call_of (fun k=>by
 obtain ⟨hc,hc0,hf,hf0⟩:=h
 simp [Qbg]
 refine lp_list a.Chains (fun i=>[I i,(.list 1 (a.Chains.map eChainR)),(.list 51 (a.Forks.map eFork)),.list 51 [],.list 1 [],.list 51 [],.list 1 ((a.Chains.take i).map eChainR)]) (by simp) (fun i x hx hi K=>?_) fun K=>?_
 ·have e:=Qbe_n x (hc0 x (List.mem_of_getElem? hx))
  rw [take_snoc hx,List.map_append]
  simp [-getElem?_pos,Qbg_r0,hx,hi,e,wr_succ (show i<1000000000000000000 by omega)]
  try omega
 ·simp [Qbg_r0]
  refine lp_list a.Forks (fun i=>[I a.Chains.length,I i,(.list 1 (a.Chains.map eChainR)),(.list 51 (a.Forks.map eFork)),.list 51 [],.list 1 [],.list 51 ((a.Forks.take i).map eFork),(.list 1 (a.Chains.map eChainR))]) (by simp) (fun i x hx hi K=>?_) fun K=>?_
  ·have e:=spec_l18Copy_b x (hf0 x (List.mem_of_getElem? hx))
   rw [take_snoc hx,List.map_append]
   simp [-getElem?_pos,Qbg_r1,hx,hi,e,wr_succ (show i<1000000000000000000 by omega)]
   try omega
  ·simp [Qbg_r1]) k
theorem impl_copyStored_b (s:GStored) (h:SB s) (k):call Qdt [.agg (eStored s)] k=k (eStored s):=call_of (fun k=>by
 simp [Qdt,Qds_n s.Answer h.2]) k
theorem impl_copyCache_b (a:GCache) (h:CB a) (k):call Qdu [.agg (eCache a)] k=k (eCache a):=call_of (fun k=>by
 obtain ⟨hl,hx0⟩:=h
 simp [Qdu]
 refine lp_list a.Lst (fun i=>[.list 23 (a.Lst.map eStored),I a.Lst.length,I i,.list 23 [],.list 23 ((a.Lst.take i).map eStored)]) (by simp) (fun i x hx hi K=>?_) fun K=>?_
 ·have e:=impl_copyStored_b x (hx0 x (List.mem_of_getElem? hx))
  rw [take_snoc hx,List.map_append]
  simp [-getElem?_pos,Qdu_r0,hx,hi,e,wr_succ (show i<1000000000000000000 by omega)]
  try omega
 ·simp [Qdu_r0]) k
theorem spec_l26Copy_b (a:GCache) (h:CB a) (k):call Qbm [.agg (eCache a)] k=k (eCache a):=call_of (fun k=>by
 obtain ⟨hl,hx0⟩:=h
 simp [Qbm]
 refine lp_list a.Lst (fun i=>[I i,.list 23 (a.Lst.map eStored),.list 23 [],.list 23 ((a.Lst.take i).map eStored)]) (by simp) (fun i x hx hi K=>?_) fun K=>?_
 ·have e:=Qbl_n x.Answer (hx0 x (List.mem_of_getElem? hx)).2
  rw [take_snoc hx,List.map_append]
  simp [-getElem?_pos,Qbm_r0,hx,hi,e,wr_succ (show i<1000000000000000000 by omega)]
  try omega
 ·simp [Qbm_r0]) k
theorem impl_IsFork_b (f:GFork) (h:FB f) (k):call Qjk [.agg (eFork f)] k=k [.bool (sForkOk f)]:=call_of (fun k=>by
 obtain ⟨h1,h2,h3⟩:=h
 have e1:=Qjd_n f.A.Head f.B.Head (signed_le h2).1 (signed_le h3).1
 have e2:=Qjj_n f.Before zSgn h1 mzS
 have e3:=Qew_n f.A h2
 have e4:=Qew_n f.B h3
 have e5:=Qfg_n f.Before.Head f.A (signed_le h1).1 h2
 have e6:=Qfg_n f.Before.Head f.B (signed_le h1).1 h3
 simp only [Qjk,un,cur0]
 rw [show [I 0,I 0,I 0,I 0,I 0,I 0,I 0,I 0,PV.list 1 [],I 0,PV.list 1 [],I 0,I 0,PV.list 1 [],I 0,PV.bool false,PV.list 2 []]=eSigned zSgn from rfl]
 simp only [e1,e2,e3,e4,e5,e6,binP_eql,beqI,atP_zero,iteP_eq,rt_eq,scs_sc,scs_nil,flat_bool,true_and]
 unfold sForkOk
 cases decide (f.A.Head=f.B.Head)<;>cases decide (f.Before=zSgn)<;>cases sIsFirst f.A<;>cases sIsFirst f.B<;>cases sMay f.Before.Head f.A<;>simp) k
theorem spec_IsFork_b (f:GFork) (h:FB f) (k):call Qhw [.agg (eFork f)] k=k [.bool (sForkOk f)]:=call_of (fun k=>by
 obtain ⟨h1,h2,h3⟩:=h
 have e1:=Qhf_n f.A.Head f.B.Head (signed_le h2).1 (signed_le h3).1
 have e2:=Qhv_n f.Before zSgn h1 mzS
 have e3:=Qcb_n f.A h2
 have e4:=Qcb_n f.B h3
 have e5:=Qck_n f.Before.Head f.A (signed_le h1).1 h2
 have e6:=Qck_n f.Before.Head f.B (signed_le h1).1 h3
 simp only [Qhw,un,cur0]
 rw [show [I 0,I 0,I 0,I 0,I 0,I 0,I 0,I 0,PV.list 1 [],I 0,PV.list 1 [],I 0,I 0,PV.list 1 [],I 0,PV.bool false,PV.list 2 []]=eSigned zSgn from rfl]
 simp only [e1,e2,e3,e4,e5,e6,binP_eql,beqI,atP_zero,iteP_eq,rt_eq,scs_sc,scs_nil,flat_bool,true_and]
 unfold sForkOk
 cases decide (f.A.Head=f.B.Head)<;>cases decide (f.Before=zSgn)<;>cases sIsFirst f.A<;>cases sIsFirst f.B<;>cases sMay f.Before.Head f.A<;>simp) k
theorem impl_ForkZone_b (f:GFork) (h:FB f) (k):call Qjl [.agg (eFork f)] k=k [I (sFZ f)]:=call_of (fun k=>by
 have e:=impl_IsFork_b f h
 simp only [Qjl,un,cur0]
 simp only [e,unP_not,atP_zero,iteP_eq,rt_eq,scs_sc,scs_nil,flat_int,true_and]
 unfold sFZ
 cases sForkOk f<;>simp) k
theorem spec_ForkZone_b (f:GFork) (h:FB f) (k):call Qhx [.agg (eFork f)] k=k [I (sFZ f)]:=call_of (fun k=>by
 have e:=spec_IsFork_b f h
 simp only [Qhx,un,cur0]
 simp only [e,unP_not,atP_zero,iteP_eq,rt_eq,scs_sc,scs_nil,flat_int,true_and]
 unfold sFZ
 cases sForkOk f<;>simp) k
theorem impl_IsForked_1_b (f:GFork) (z:Int) (h:FB f) (k):call Qjm [.agg (eFork f),.ro (.cells [I z])] k=k [.bool (decide (sFZ f=z))]:=call_of (fun k=>by
 have e:=impl_ForkZone_b f h
 simp only [Qjm,un,cur0]
 simp only [e,binP_eql,beqI,atP_zero,rt_eq,scs_sc,scs_nil,flat_bool,true_and]) k
theorem forkedAny (k:GKnown) (z:Int) (h:0≤z):sForked k z=k.Forks.any (fun f=>decide (sFZ f=z)):=by
 unfold sForked
 simp [h]
theorem impl_IsForked_b (a:GKnown) (z:Int) (h:KB a) (k):call Qjp [.agg (eKnown a),.one (I z)] k=k [.bool (sForked a z)]:=call_of (fun k=>by
 obtain ⟨_,_,hf,hf0⟩:=h
 have e0:∀k,call Qjn [.one (.list 51 (a.Forks.map eFork)),.fn 338 [.cells [I z]]] k=k [I (idx (fun f=>decide (sFZ f=z)) a.Forks)]:=call_of (fun k=>by
  simp [Qjn]
  refine lp_find (Q:=fun i=>k [I i]) a.Forks (fun i=>[.list 51 (a.Forks.map eFork),I z,I 0,I a.Forks.length,I i]) (fun f=>decide (sFZ f=z)) rfl (fun i x hx hi K=>?_) fun K=>?_
  ·have e:=impl_IsForked_1_b x z (hf0 x (List.mem_of_getElem? hx))
   simp [-getElem?_pos,Qjn_r0,hx,hi,e,wr_succ (show i<1000000000000000000 by omega)]
  ·simp [Qjn_r0])
 have e:∀k,call Qjo [.one (.list 51 (a.Forks.map eFork)),.fn 338 [.cells [I z]]] k=k [.bool (a.Forks.any fun f=>decide (sFZ f=z))]:=call_of (fun k=>by
  simp only [Qjo,un,cur0,e0,binP_geq,atP_zero,rt_eq,scs_sc,scs_nil,flat_bool,true_and,idx_any])
 simp only [Qjp,un,cur0,binP_geq,iteP_eq]
 by_cases hz:0≤z
 ·simp [hz,e,forkedAny a z hz]
 ·simp [hz,sForked]) k
theorem spec_IsForked_b (a:GKnown) (z:Int) (h:KB a) (k):call Qhy [.agg (eKnown a),.one (I z)] k=k [.bool (sForked a z)]:=call_of (fun k=>by
 obtain ⟨_,_,hf,hf0⟩:=h
 simp only [Qhy,un,cur0]
 have hs:sForked a z=(a.Forks.any (fun f=>decide (sFZ f=z)&&decide (0≤z))==true):=by
  unfold sForked
  by_cases hz:0≤z<;>simp [hz]
 rw [hs]
 refine lp_anyk k true a.Forks (fun i=>[I z,.bool false,I i,chains a.Chains,.list 51 (a.Forks.map eFork)]) (fun f=>decide (sFZ f=z)&&decide (0≤z)) rfl (fun i x hx hi K=>?_) fun K=>?_
 ·have e:=spec_ForkZone_b x (hf0 x (List.mem_of_getElem? hx))
  simp [-getElem?_pos,Qhy_r0,hx,hi,e,wr_succ (show i<1000000000000000000 by omega)]
  by_cases h1:sFZ x=z<;>by_cases h2:0≤z<;>simp [h1,h2]
 ·simp [Qhy_r0]) k
theorem idx_at {α:Type} {p:α→Bool} {l:List α} (h:¬idx p l<0):0≤idx p l∧(idx p l).toNat<l.length∧∃d,l[(idx p l).toNat]? = some d:=by
 have hb:=findI_bd p l 0
 unfold idx at h ⊢
 rcases hb with h1 | ⟨h1,h2⟩
 ·omega
 ·have hl:(findI p 0 l).toNat<l.length:=by omega
  exact ⟨by omega,hl,l[(findI p 0 l).toNat],List.getElem?_eq_getElem hl⟩
theorem kC_eq {k:GKnown} {c d:List GSigned} (h:k.Chains[(kI k c).toNat]? = some d):kC k c=d:=by
 unfold kC;rw [List.getD_eq_getElem?_getD,h];rfl
theorem impl_Meet_b (a:GKnown) (l:List GSigned) (hk:KB a) (h:mSignedS l≤1048576) (k):call Qjf [.agg (eKnown a),.one (.list 17 (l.map eSigned))] k=k [I (sMeet a l)]:=call_of (fun k=>by
 have e1:=Qfi_n l h
 unfold sMeet
 cases c1:sIsChain l with
 | false=>simp [Qjf,e1,c1]
 | true =>
 obtain ⟨s,hs⟩:=chain_fst c1
 have hz:fz l=s.Head.Zone:=by simp [fz,hs]
 have e2:∀k,call Qjc [.agg [chains a.Chains,.list 51 (a.Forks.map eFork)],.one (I s.Head.Zone)] k=k [I (kI a l)]:=by
  have:=impl_find_n a (fz l) hk.1
  rw [hz] at this
  unfold kI
  rw [hz]
  exact this
 have hlen:=lt_of_get hs
 by_cases c2:kI a l<0
 ·simp [-getElem?_pos,Qjf,e1,c1,hs,e2,c2]
 ·obtain ⟨h0,hl,d,hd⟩:=idx_at (p:=hasZ (fz l)) (l:=a.Chains) c2
  have hd':a.Chains[(kI a l).toNat]? = some d:=hd
  have h0':0≤kI a l:=h0
  have hC:=kC_eq hd'
  have hm:=hk.2.1 d (List.mem_of_getElem? hd)
  have e3:=Qje_n d l hm h
  have e4:=Qje_n l d h hm
  rw [hC]
  simp [-getElem?_pos,Qjf,e1,c1,hs,e2,c2,hd',h0',e3,e4]
  cases sPre d l<;>cases sPre l d<;>simp) k
theorem spec_Meet_b (a:GKnown) (l:List GSigned) (hk:KB a) (h:mSignedS l≤1048576) (k):call Qhh [.agg (eKnown a),.one (.list 17 (l.map eSigned))] k=k [I (sMeet a l)]:=call_of (fun k=>by
 have e1:=Qcm_n l h
 unfold sMeet
 cases c1:sIsChain l with
 | false=>simp [Qhh,e1,c1]
 | true =>
 obtain ⟨s,hs⟩:=chain_fst c1
 have hz:fz l=s.Head.Zone:=by simp [fz,hs]
 have e2:∀k,call Qhe [.agg [chains a.Chains,.list 51 (a.Forks.map eFork)],.one (I s.Head.Zone)] k=k [I (kI a l)]:=by
  have:=Qhe_n a (fz l) hk.1
  rw [hz] at this
  unfold kI
  rw [hz]
  exact this
 have hlen:=lt_of_get hs
 by_cases c2:kI a l<0
 ·simp [-getElem?_pos,Qhh,e1,c1,hs,e2,c2]
 ·obtain ⟨h0,hl,d,hd⟩:=idx_at (p:=hasZ (fz l)) (l:=a.Chains) c2
  have hd':a.Chains[(kI a l).toNat]? = some d:=hd
  have h0':0≤kI a l:=h0
  have hC:=kC_eq hd'
  have hm:=hk.2.1 d (List.mem_of_getElem? hd)
  have e3:=Qhg_n d l hm h
  have e4:=Qhg_n l d h hm
  rw [hC]
  simp [-getElem?_pos,Qhh,e1,c1,hs,e2,c2,hd',h0',e3,e4]
  cases sPre d l<;>cases sPre l d<;>simp) k
theorem impl_Learn_b (a:GKnown) (l:List GSigned) (hk:KB a) (h:mSignedS l≤1048576) (k):call Qjh [.agg (eKnown a),.one (.list 17 (l.map eSigned))] k=k (eKnown (sLearn a l).1++[I (sLearn a l).2]):=call_of (fun k=>by
 have e1:=impl_copyKnown_b a hk
 have e2:=impl_Meet_b a l hk h
 have e3:=Qdl_n l h
 have hch:=hk.1
 have hfl:=hk.2.2.1
 unfold sLearn
 by_cases c1:sMeet a l=1
 ·by_cases c2:(8:Int)≤a.Chains.length
  ·simp [Qjh,e1,e2,e3,c1,c2]
  ·simp [Qjh,e1,e2,e3,c1,c2,show a.Chains.length<1073741823 by omega]
   try (intro _;omega)
 by_cases c3:sMeet a l=3
 ·have hc:sIsChain l=true:=by
   by_cases hc:sIsChain l=true
   ·exact hc
   ·unfold sMeet at c3;rw [if_neg hc] at c3;cases c3
  have hi:¬kI a l<0:=by
   intro hi
   unfold sMeet at c3;rw [if_pos hc,if_pos (by simpa using hi)] at c3;cases c3
  obtain ⟨s,hs⟩:=chain_fst hc
  have hz:fz l=s.Head.Zone:=by simp [fz,hs]
  have e4:∀k,call Qjc [.agg [chains a.Chains,.list 51 (a.Forks.map eFork)],.one (I s.Head.Zone)] k=k [I (kI a l)]:=by
   have:=impl_find_n a (fz l) hk.1
   rw [hz] at this
   unfold kI
   rw [hz]
   exact this
  obtain ⟨h0,hl,d,hd⟩:=idx_at (p:=hasZ (fz l)) (l:=a.Chains) hi
  have hd':a.Chains[(kI a l).toNat]? = some d:=hd
  have h0':0≤kI a l:=h0
  have hl':(kI a l).toNat<a.Chains.length:=hl
  have hlen:=lt_of_get hs
  simp [-getElem?_pos,Qjh,e1,e2,e3,c3,hs,e4,h0',hl',hd',over]
 by_cases c5:sMeet a l=5
 ·have hc:sIsChain l=true:=by
   by_cases hc:sIsChain l=true
   ·exact hc
   ·unfold sMeet at c5;rw [if_neg hc] at c5;cases c5
  have hi:¬kI a l<0:=by
   intro hi
   unfold sMeet at c5;rw [if_pos hc,if_pos (by simpa using hi)] at c5;cases c5
  obtain ⟨s,hs⟩:=chain_fst hc
  have hz:fz l=s.Head.Zone:=by simp [fz,hs]
  have e4:∀k,call Qjc [.agg [chains a.Chains,.list 51 (a.Forks.map eFork)],.one (I s.Head.Zone)] k=k [I (kI a l)]:=by
   have:=impl_find_n a (fz l) hk.1
   rw [hz] at this
   unfold kI
   rw [hz]
   exact this
  obtain ⟨h0,hl,d,hd⟩:=idx_at (p:=hasZ (fz l)) (l:=a.Chains) hi
  have hd':a.Chains[(kI a l).toNat]? = some d:=hd
  have h0':0≤kI a l:=h0
  have hl':(kI a l).toNat<a.Chains.length:=hl
  have hC:=kC_eq hd'
  have hm:=hk.2.1 d (List.mem_of_getElem? hd)
  have e5:=Qjg_n d l hm h
  have hlen:=lt_of_get hs
  rw [hC]
  cases hf:sForkIn d l with
  | none =>
   rw [hf] at e5
   simp [-getElem?_pos,Qjh,e1,e2,e3,c5,hs,e4,h0',hl',hd',e5,oFork]
  | some f =>
   rw [hf] at e5
   by_cases c6:(a.Forks.length:Int)<8
   ·simp [-getElem?_pos,Qjh,e1,e2,e3,c5,hs,e4,h0',hl',hd',e5,oFork,c6,show a.Forks.length<1073741823 by omega]
    try (intro _;omega)
   ·simp [-getElem?_pos,Qjh,e1,e2,e3,c5,hs,e4,h0',hl',hd',e5,oFork,c6]
 simp [Qjh,e1,e2,e3,c1,c3,c5]) k
theorem spec_Learn_b (a:GKnown) (l:List GSigned) (hk:KB a) (h:mSignedS l≤1048576) (k):call Qhj [.agg (eKnown a),.one (.list 17 (l.map eSigned))] k=k (eKnown (sLearn a l).1++[I (sLearn a l).2]):=call_of (fun k=>by
 have e1:=spec_l22Copy_b a hk
 have e2:=spec_Meet_b a l hk h
 have e3:=Qbe_n l h
 have hch:=hk.1
 have hfl:=hk.2.2.1
 unfold sLearn
 by_cases c1:sMeet a l=1
 ·by_cases c2:(8:Int)≤a.Chains.length
  ·simp [Qhj,e1,e2,e3,c1,c2]
  ·simp [Qhj,e1,e2,e3,c1,c2,show a.Chains.length<1073741823 by omega]
   try (intro _;omega)
 by_cases c3:sMeet a l=3
 ·have hc:sIsChain l=true:=by
   by_cases hc:sIsChain l=true
   ·exact hc
   ·unfold sMeet at c3;rw [if_neg hc] at c3;cases c3
  have hi:¬kI a l<0:=by
   intro hi
   unfold sMeet at c3;rw [if_pos hc,if_pos (by simpa using hi)] at c3;cases c3
  obtain ⟨s,hs⟩:=chain_fst hc
  have hz:fz l=s.Head.Zone:=by simp [fz,hs]
  have e4:∀k,call Qhe [.agg [chains a.Chains,.list 51 (a.Forks.map eFork)],.one (I s.Head.Zone)] k=k [I (kI a l)]:=by
   have:=Qhe_n a (fz l) hk.1
   rw [hz] at this
   unfold kI
   rw [hz]
   exact this
  obtain ⟨h0,hl,d,hd⟩:=idx_at (p:=hasZ (fz l)) (l:=a.Chains) hi
  have hd':a.Chains[(kI a l).toNat]? = some d:=hd
  have h0':0≤kI a l:=h0
  have hl':(kI a l).toNat<a.Chains.length:=hl
  have hlen:=lt_of_get hs
  simp [-getElem?_pos,Qhj,e1,e2,e3,c3,hs,e4,h0',hl',hd',over]
 by_cases c5:sMeet a l=5
 ·have hc:sIsChain l=true:=by
   by_cases hc:sIsChain l=true
   ·exact hc
   ·unfold sMeet at c5;rw [if_neg hc] at c5;cases c5
  have hi:¬kI a l<0:=by
   intro hi
   unfold sMeet at c5;rw [if_pos hc,if_pos (by simpa using hi)] at c5;cases c5
  obtain ⟨s,hs⟩:=chain_fst hc
  have hz:fz l=s.Head.Zone:=by simp [fz,hs]
  have e4:∀k,call Qhe [.agg [chains a.Chains,.list 51 (a.Forks.map eFork)],.one (I s.Head.Zone)] k=k [I (kI a l)]:=by
   have:=Qhe_n a (fz l) hk.1
   rw [hz] at this
   unfold kI
   rw [hz]
   exact this
  obtain ⟨h0,hl,d,hd⟩:=idx_at (p:=hasZ (fz l)) (l:=a.Chains) hi
  have hd':a.Chains[(kI a l).toNat]? = some d:=hd
  have h0':0≤kI a l:=h0
  have hl':(kI a l).toNat<a.Chains.length:=hl
  have hC:=kC_eq hd'
  have hm:=hk.2.1 d (List.mem_of_getElem? hd)
  have e5:=Qhi_n d l hm h
  have hlen:=lt_of_get hs
  rw [hC]
  cases hf:sForkIn d l with
  | none =>
   rw [hf] at e5
   simp [-getElem?_pos,Qhj,e1,e2,e3,c5,hs,e4,h0',hl',hd',e5,oFork]
  | some f =>
   rw [hf] at e5
   by_cases c6:(a.Forks.length:Int)<8
   ·simp [-getElem?_pos,Qhj,e1,e2,e3,c5,hs,e4,h0',hl',hd',e5,oFork,c6,show a.Forks.length<1073741823 by omega]
    try (intro _;omega)
   ·simp [-getElem?_pos,Qhj,e1,e2,e3,c5,hs,e4,h0',hl',hd',e5,oFork,c6]
 simp [Qhj,e1,e2,e3,c1,c3,c5]) k
end Go.Ev
set_option linter.unusedVariables false
set_option linter.unusedSimpArgs false
set_option maxRecDepth 8000
set_option maxHeartbeats 4000000
namespace Go.Ev
open Go.Proofs
theorem lp_look {R:(List PV→Prop)→List PV→Prop} {z:Int} {s:ByteArray} {now:Int} (l:List GAnswer) (V:Nat→GKnown→List Int→List PV) (fin:GKnown×List Int×Option (Nat×GAnswer)→Prop)
 (ha:∀a∈l,mAnswer a≤1048576)
 (h:∀i a k cs,l[i]? = some a→i<l.length→KB k→cs.length=i→∀K,R K (V i k cs)↔if sExC k a z s now=1 then fin ((sMet k a z).1,cs++[sExC k a z s now],some (i,a)) else K (V (i+1) (sMet k a z).1 (cs++[sExC k a z s now])))
 (hf:∀k cs K,R K (V l.length k cs)↔fin (k,cs,none)) (k:GKnown) (hk:KB k):lp R (V 0 k [])↔fin (sLook z s now k [] 0 l):=by
 have key:∀(r:List GAnswer) (i:Nat) (k:GKnown) (cs:List Int),l.drop i=r→i≤l.length→KB k→cs.length=i→(lp R (V i k cs)↔fin (sLook z s now k cs i r)):=by
  intro r
  induction r with
  | nil =>
   intro i k cs hd hi hk hc
   have:i=l.length:=by
    have:=congrArg List.length hd
    simp at this;omega
   subst this
   exact itP_mono_end (hf k cs)
  | cons a r ih =>
   intro i k cs hd hi hk hc
   have hx:l[i]? = some a:=by
    have:=congrArg (fun q=>q[0]?) hd
    simpa using this
   have hlt:=lt_of_get hx
   have hstep:=h i a k cs hx hlt hk hc
   rw [sLook]
   by_cases he:sExC k a z s now=1
   ·rw [if_pos he]
    exact itP_mono_end fun K=>by rw [hstep K,if_pos he]
   ·rw [if_neg he]
    refine (lp_step fun K=>by rw [hstep K,if_neg he]).trans ?_
    refine ih (i+1) _ _ ?_ (by omega) (KB_met hk (ha a (List.mem_of_getElem? hx))) (by simp [hc])
    rw [←List.drop_drop,hd];rfl
 exact key l 0 k [] rfl (Nat.zero_le _) hk rfl
def lookG (q:GKnown×List Int×Option (Nat×GAnswer)):GLook:=match q with
 | (k,cs,some (_,a))=>⟨k,a.Found,a.Entry,true,cs⟩
 | (k,cs,none)=>⟨k,false,zEntry,false,cs⟩
def lookI (q:GKnown×List Int×Option (Nat×GAnswer)):Int:=match q with
 | (_,_,some (i,_))=>i
 | (_,_,none)=>-1
theorem met_pos {k:GKnown} {a:GAnswer} {z:Int} (h1:sIsChain a.Chain=true) (h2:fz a.Chain=z):sMet k a z=sLearn k a.Chain:=by
 unfold sMet;rw [if_pos (by simp [h1,h2])]
theorem met_neg {k:GKnown} {a:GAnswer} {z:Int} (h:¬(sIsChain a.Chain=true∧fz a.Chain=z)):sMet k a z=(k,6):=by
 unfold sMet;rw [if_neg (by simpa using h)]
theorem take_ints (cs:List Int) (c:Int):(ints (cs++[c]))=.list 1 (cs.map rI++[[I c]]):=by simp [rI]
theorem impl_lookUp_b (k0:GKnown) (l:List GAnswer) (z:Int) (s:ByteArray) (now:Int) (hk:KB k0) (hl:l.length≤1048576) (ha:∀a∈l,mAnswer a≤1048576) (hs:s.size≤1048576) (k) :
 call Qjq [.agg (eKnown k0),.one (.list 21 (l.map eAnswer)),.one (I z),.one (.str s),.one (I now)] k=k (eLook (lookG (sLook z s now k0 [] 0 l))++[I (lookI (sLook z s now k0 [] 0 l))]):=call_of (fun k=>by
 have e0:=impl_copyKnown_b k0 hk
 simp only [Qjq,un,cur0]
 simp only [e0,lenP_eq,List.length_map,atP_zero,atP_succ]
 refine lp_look (z:=z) (s:=s) (now:=now) l (fun i k cs=>[I z,.str s,I now,I 0,.list 21 (l.map eAnswer),I l.length,I i,.bool false,.str ⟨#[]⟩,I 0,I 0,.bool false,.bool false,.str ⟨#[]⟩,I 0,I 0,.bool false,.list 1 [],.list 1 [],.list 51 [],.list 1 [],ints cs,.list 1 [],chains k.Chains,.list 51 (k.Forks.map eFork)])
  (fun q=>k (eLook (lookG q)++[I (lookI q)])) ha (fun i a k1 cs hx hi hk1 hc K=>?_) (fun k1 cs K=>?_) k0 hk
 ·have hm:=ha a (List.mem_of_getElem? hx)
  have e1:=Qiz_n z s a now hs hm
  have e2:=Qfi_n a.Chain (answer_le hm).1
  have e3:=impl_Learn_b k1 a.Chain hk1 (answer_le hm).1
  have e4:=impl_IsForked_b k1 z hk1
  have e5:=impl_IsForked_b (sLearn k1 a.Chain).1 z (KB_learn hk1 (answer_le hm).1)
  have e6:=Qdn_n a.Entry (answer_le hm).2.1
  have hcl:cs.length+1<1073741824:=by omega
  by_cases h1:sIsChain a.Chain=true
  rotate_left
  ·have hM:=met_neg (k:=k1) (z:=z) (fun q=>h1 q.1)
   unfold sExC
   rw [hM]
   simp only [show inR 6 1 3=false by decide,Bool.false_and,Bool.not_false,Bool.and_true]
   by_cases hA:sAns z s a now=1
   ·simp [-getElem?_pos,take_ints,Qjq_r0,hx,hi,e1,e2,h1,hA,Qdv_n,show inR 6 1 3=false by decide,hcl,wr_succ (show i<1000000000000000000 by omega)]
   ·simp [-getElem?_pos,take_ints,Qjq_r0,hx,hi,e1,e2,h1,hA,Qdv_n,show inR 6 1 3=false by decide,hcl,wr_succ (show i<1000000000000000000 by omega)]
  obtain ⟨c0,hc0⟩:=chain_fst h1
  have hc0l:=lt_of_get hc0
  have hfz:fz a.Chain=c0.Head.Zone:=by simp [fz,hc0]
  by_cases h2:c0.Head.Zone=z
  rotate_left
  ·have hM:=met_neg (k:=k1) (a:=a) (z:=z) (fun q=>h2 (by rw [←hfz];exact q.2))
   unfold sExC
   rw [hM]
   simp only [show inR 6 1 3=false by decide,Bool.false_and,Bool.not_false,Bool.and_true]
   by_cases hA:sAns z s a now=1
   ·simp [-getElem?_pos,take_ints,Qjq_r0,hx,hi,e1,e2,h1,hc0,h2,hA,Qdv_n,show inR 6 1 3=false by decide,hcl,wr_succ (show i<1000000000000000000 by omega)]
   ·simp [-getElem?_pos,take_ints,Qjq_r0,hx,hi,e1,e2,h1,hc0,h2,hA,Qdv_n,show inR 6 1 3=false by decide,hcl,wr_succ (show i<1000000000000000000 by omega)]
  have hM:=met_pos (k:=k1) (z:=z) h1 (by rw [hfz];exact h2)
  unfold sExC
  rw [hM]
  by_cases hA:sAns z s a now=1<;>by_cases hr:inR (sLearn k1 a.Chain).2 1 3=true<;>by_cases hF:sForked (sLearn k1 a.Chain).1 z=true
  all_goals try simp only [Bool.not_eq_true] at hr
  all_goals try simp only [Bool.not_eq_true] at hF
  all_goals simp [-getElem?_pos,take_ints,Qjq_r0,hx,hi,e1,e2,e3,e5,e6,h1,hc0,h2,hA,hr,hF,Qdv_n,hcl,lookG,lookI,wr_succ (show i<1000000000000000000 by omega)]
 ·simp [Qjq_r0,lookG,lookI,zEntry]
  rfl) k
end Go.Ev
set_option linter.unusedVariables false
set_option linter.unusedSimpArgs false
set_option maxRecDepth 8000
set_option maxHeartbeats 8000000
namespace Go.Ev
open Go.Proofs
theorem spec_LookUp_b (k0:GKnown) (l:List GAnswer) (z:Int) (s:ByteArray) (now:Int) (hk:KB k0) (hl:l.length≤1048576) (ha:∀a∈l,mAnswer a≤1048576) (hs:s.size≤1048576) (k) :
 call Qhz [.agg (eKnown k0),.one (.list 21 (l.map eAnswer)),.one (I z),.one (.str s),.one (I now)] k=k (eLook (lookG (sLook z s now k0 [] 0 l))):=call_of (fun k=>by
 have e0:=spec_l22Copy_b k0 hk
 simp only [Qhz,un,cur0]
 simp only [e0,atP_zero,atP_succ]
 refine lp_look (z:=z) (s:=s) (now:=now) l (fun i k cs=>[.list 21 (l.map eAnswer),I z,.str s,I now,I i,chains k.Chains,.list 51 (k.Forks.map eFork),.bool false,.str ⟨#[]⟩,I 0,I 0,.list 1 [],.bool false,.list 1 [],.list 51 [],.bool false,.str ⟨#[]⟩,I 0,I 0,.list 1 [],.bool false,.list 1 [],ints cs])
  (fun q=>k (eLook (lookG q))) ha (fun i a k1 cs hx hi hk1 hc K=>?_) (fun k1 cs K=>?_) k0 hk
 ·have hm:=ha a (List.mem_of_getElem? hx)
  have e1:=Qhu_n z s a now hs hm
  have e2:=Qcn_n a.Chain (answer_le hm).1
  have e3:=spec_Learn_b k1 a.Chain hk1 (answer_le hm).1
  have e4:=spec_IsForked_b k1 z hk1
  have e5:=spec_IsForked_b (sLearn k1 a.Chain).1 z (KB_learn hk1 (answer_le hm).1)
  have e6:=Qbi_n a.Entry (answer_le hm).2.1
  have hcl:cs.length+1<1073741824:=by omega
  have d6:inR 6 1 3=false:=by decide
  cases hL:sLast a.Chain with
  | none =>
   rw [hL] at e2
   have h1:=last_none' hL
   have hM:=met_neg (k:=k1) (a:=a) (z:=z) (fun q=>by rw [h1] at q;cases q.1)
   unfold sExC
   rw [hM]
   simp only [d6,Bool.false_and,Bool.not_false,Bool.and_true]
   by_cases hA:sAns z s a now=1
   ·simp [-getElem?_pos,take_ints,Qhz_r0,hx,hi,e1,e2,oHead,hA,hcl,wr_succ (show i<1000000000000000000 by omega)]
   ·simp [-getElem?_pos,take_ints,Qhz_r0,hx,hi,e1,e2,oHead,hA,hcl,wr_succ (show i<1000000000000000000 by omega)]
  | some p =>
   rw [hL] at e2
   obtain ⟨h1,hfz⟩:=last_zone hL
   by_cases h2:p.Zone=z
   rotate_left
   ·have hM:=met_neg (k:=k1) (a:=a) (z:=z) (fun q=>h2 (by rw [hfz];exact q.2))
    unfold sExC
    rw [hM]
    simp only [d6,Bool.false_and,Bool.not_false,Bool.and_true]
    by_cases hA:sAns z s a now=1
    ·simp [-getElem?_pos,take_ints,Qhz_r0,hx,hi,e1,e2,oHead,h2,hA,hcl,wr_succ (show i<1000000000000000000 by omega)]
    ·simp [-getElem?_pos,take_ints,Qhz_r0,hx,hi,e1,e2,oHead,h2,hA,hcl,wr_succ (show i<1000000000000000000 by omega)]
   have hM:=met_pos (k:=k1) (a:=a) (z:=z) h1 (by rw [←hfz];exact h2)
   unfold sExC
   rw [hM]
   generalize hq:sLearn k1 a.Chain=q at *
   obtain ⟨k2,m⟩:=q
   simp only at e3 e5 ⊢
   have key:(m=1∨m=2∨m=3)∧inR m 1 3=true∨(¬m=1∧¬m=2∧¬m=3)∧inR m 1 3=false:=by
    unfold inR
    by_cases q1:m=1
    ·subst q1;simp
    by_cases q2:m=2
    ·subst q2;simp
    by_cases q3:m=3
    ·subst q3;simp
    right
    simp [q1,q2,q3];omega
   by_cases hA:sAns z s a now=1<;>by_cases hF:sForked k2 z=true
   all_goals try simp only [Bool.not_eq_true] at hF
   all_goals rcases key with ⟨q | q | q,hr⟩ | ⟨⟨q1,q2,q3⟩,hr⟩
   all_goals first
    | (subst q;simp [-getElem?_pos,take_ints,Qhz_r0,hx,hi,e1,e2,e3,e5,e6,oHead,h2,hA,hr,hF,hcl,lookG,eLook,wr_succ (show i<1000000000000000000 by omega)];done)
    | (simp [-getElem?_pos,take_ints,Qhz_r0,hx,hi,e1,e2,e3,e5,e6,oHead,h2,hA,hr,hF,q1,q2,q3,hcl,lookG,eLook,wr_succ (show i<1000000000000000000 by omega)];done)
 ·simp [Qhz_r0,lookG,zEntry]
  rfl) k
end Go.Ev
set_option linter.unusedVariables false
set_option linter.unusedSimpArgs false
set_option maxRecDepth 8000
set_option maxHeartbeats 8000000
namespace Go.Ev
open Go.Proofs
theorem from_at {c:GCache} {z:Int} {s:ByteArray} (h:¬idx (isS z s) c.Lst<0):∃x,c.Lst[(idx (isS z s) c.Lst).toNat]? = some x∧sFrom c z s=x.Answer∧0≤idx (isS z s) c.Lst∧(idx (isS z s) c.Lst).toNat<c.Lst.length:=by
 obtain ⟨h0,hl,x,hx⟩:=idx_at h
 refine ⟨x,hx,?_,h0,hl⟩
 unfold sFrom
 rw [hx]
 simp [h]
theorem from_no {c:GCache} {z:Int} {s:ByteArray} (h:idx (isS z s) c.Lst<0):sFrom c z s=zAnsw:=by
 unfold sFrom
 split
 ·simp [h]
 ·rfl
theorem impl_FromCache_b (c:GCache) (z:Int) (s:ByteArray) (hc:CB c) (k):call Qkf [.agg (eCache c),.one (I z),.one (.str s)] k=k (eAnswer (sFrom c z s)):=call_of (fun k=>by
 have e1:=impl_cfind_n c z s hc.1
 by_cases h:idx (isS z s) c.Lst<0
 ·rw [from_no h]
  simp [Qkf,e1,h,zAnsw,zEntry,zProof,zGap]
  rfl
 ·obtain ⟨x,hx,hf,h0,hl⟩:=from_at h
  rw [hf]
  have e2:=Qds_n x.Answer (hc.2 x (List.mem_of_getElem? hx)).2
  simp [-getElem?_pos,Qkf,e1,h,hx,h0,e2]) k
theorem spec_FromCache_b (c:GCache) (z:Int) (s:ByteArray) (hc:CB c) (k):call Qju [.agg (eCache c),.one (I z),.one (.str s)] k=k (eAnswer (sFrom c z s)):=call_of (fun k=>by
 have e1:=Qjt_n c z s hc.1
 by_cases h:idx (isS z s) c.Lst<0
 ·rw [from_no h]
  simp [Qju,e1,h,zAnsw,zEntry,zProof,zGap]
  rfl
 ·obtain ⟨x,hx,hf,h0,hl⟩:=from_at h
  rw [hf]
  have e2:=Qbl_n x.Answer (hc.2 x (List.mem_of_getElem? hx)).2
  simp [-getElem?_pos,Qju,e1,h,hx,h0,e2]) k
theorem impl_KeepAnswer_b (c:GCache) (z:Int) (s:ByteArray) (a:GAnswer) (now:Int) (hc:CB c) (hs:s.size≤1048576) (ha:mAnswer a≤1048576) (k):call Qkh [.agg (eCache c),.one (I z),.one (.str s),.agg (eAnswer a),.one (I now)] k=k (eCache (sKeep c z s a now)):=call_of (fun k=>by
 have e0:=impl_copyCache_b c hc
 have e1:=Qiz_n z s a now hs ha
 have e2:=Qds_n a ha
 have e3:=impl_cfind_n c z s hc.1
 have hl1:=hc.1
 unfold sKeep
 by_cases hA:sAns z s a now=1
 rotate_left
 ·simp [Qkh,e0,e1,hA]
 by_cases h:idx (isS z s) c.Lst<0
 ·have h':¬0≤idx (isS z s) c.Lst:=by omega
  by_cases h6:(c.Lst.length:Int)<16
  ·simp [Qkh,e0,e1,e2,e3,hA,h',h6,show c.Lst.length+1<1073741824 by omega,eCache,List.map_append]
  ·simp [Qkh,e0,e1,e2,e3,hA,h',h6]
 ·obtain ⟨x,hx,hf,h0,hl⟩:=from_at h
  simp [-getElem?_pos,Qkh,e0,e1,e2,e3,hA,h0,hl,hx,over,eCache,List.map_set]) k
theorem spec_KeepAnswer_b (c:GCache) (z:Int) (s:ByteArray) (a:GAnswer) (now:Int) (hc:CB c) (hs:s.size≤1048576) (ha:mAnswer a≤1048576) (k):call Qjw [.agg (eCache c),.one (I z),.one (.str s),.agg (eAnswer a),.one (I now)] k=k (eCache (sKeep c z s a now)):=call_of (fun k=>by
 have e0:=spec_l26Copy_b c hc
 have e1:=Qhu_n z s a now hs ha
 have e2:=Qbl_n a ha
 have e3:=Qjt_n c z s hc.1
 have hl1:=hc.1
 unfold sKeep
 by_cases hA:sAns z s a now=1
 rotate_left
 ·simp [Qjw,e0,e1,hA]
 by_cases h:idx (isS z s) c.Lst<0
 ·have h':¬0≤idx (isS z s) c.Lst:=by omega
  by_cases h6:(c.Lst.length:Int)<16
  ·simp [Qjw,e0,e1,e2,e3,hA,h',h6,show c.Lst.length+1<1073741824 by omega,eCache,List.map_append]
  ·simp [Qjw,e0,e1,e2,e3,hA,h',h6]
 ·obtain ⟨x,hx,hf,h0,hl⟩:=from_at h
  simp [-getElem?_pos,Qjw,e0,e1,e2,e3,hA,h0,hl,hx,over,eCache,List.map_set]) k
def sBel (l:GLook):GEntry:=if (l.Done&&l.Found)=true then l.Entry else zEntry
theorem spec_BelievedOf_b (l:GLook) (h:mEntry l.Entry≤1048576) (k):call Qjx [.agg (eLook l)] k=k (eEntry (sBel l)++[.bool (l.Done&&l.Found)]):=call_of (fun k=>by
 have e:=Qbi_n l.Entry h
 unfold sBel
 cases h1:l.Done<;>cases h2:l.Found<;>simp [Qjx,e,h1,h2,zEntry]
 all_goals rfl) k
theorem spec_IsAbsent_b (l:GLook) (k):call Qjy [.agg (eLook l)] k=k [.bool (l.Done&&!l.Found)]:=call_of (fun k=>by
 cases h1:l.Done<;>cases h2:l.Found<;>simp [Qjy,h1,h2]) k
end Go.Ev
