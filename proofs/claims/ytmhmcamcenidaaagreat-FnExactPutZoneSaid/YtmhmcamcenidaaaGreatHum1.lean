/- What each function hands back, in plain Lean, and that the laws answer true, part 1. -/
import Derived.Test.YtmhmcamcenidaaaGreatFn4
set_option linter.unusedVariables false
set_option linter.unusedSimpArgs false
set_option maxRecDepth 4000
namespace Go.Ev
open Go.Proofs
theorem szr_add {s t:Nat} {left:Int} (h:(s:Int)≤left):szr (s+t) left=szr t (left-s):=by
 unfold szr
 by_cases h1:(t:Int)≤left-s
 ·rw [if_pos h1,if_pos (by omega)];omega
 ·rw [if_neg h1,if_neg (by omega)]
theorem szr_over {s t:Nat} {left:Int} (h:¬(s:Int)≤left):szr (s+t) left=-1:=by unfold szr;rw [if_neg (by omega)]
theorem szr_not {s:Nat} {left:Int} (h:¬(s:Int)≤left):szr s left=-1:=by unfold szr;rw [if_neg h]
theorem szr_yes {s:Nat} {left:Int} (h:(s:Int)≤left):szr s left=left-s:=by unfold szr;rw [if_pos h]
theorem szr_pos {s:Nat} {left:Int} (h:0≤szr s left):(s:Int)≤left∧szr s left=left-s:=by
 unfold szr at h ⊢
 split at h
 ·rename_i h1;rw [if_pos h1];exact ⟨h1,rfl⟩
 ·omega
theorem sumN_mem {α:Type} {s:α→Nat} {x:α}:∀{l:List α},x∈l→s x≤sumN s l
 | y::l,h=>by
  rw [show sumN s (y::l)=s y+sumN s l from rfl]
  rcases List.mem_cons.1 h with rfl | h
  ·omega
  ·have:=sumN_mem (s:=s) h;omega
theorem sz_seq {s t:Nat} {left:Int} {A:Int→Prop} {k:List PV→Prop} (h2:0≤left) (h3:left≤1048576) (h:∀l,0≤l→l≤1048576→(A l↔k [I (szr t l)])) :
 (if decide (szr s left<0)=true then k [I (-1)] else A (szr s left))↔k [I (szr (s+t) left)]:=by
 by_cases hs:(s:Int)≤left
 ·rw [szr_yes hs,szr_add hs,if_neg (by simp;omega)]
  exact h _ (by omega) (by omega)
 ·rw [szr_not hs,szr_over hs];simp
theorem sz_end {s:Nat} {left:Int} {k:List PV→Prop} (h2:0≤left):(if decide (szr s left<0)=true then k [I (-1)] else k [I (szr s left)])↔k [I (szr s left)]:=by
 by_cases hs:(s:Int)≤left
 ·rw [szr_yes hs,if_neg (by simp;omega)]
 ·rw [szr_not hs];simp
theorem sz_len {n:Nat} {left:Int} {A:Int→Prop} {k:List PV→Prop} (h1:n≤maxLen) (h2:0≤left) (h3:left≤1048576) :
 (if decide (IntKind.i64.wrap (left-n)<0)=true then k [I (-1)] else A (IntKind.i64.wrap (left-n)))↔(if decide (szr n left<0)=true then k [I (-1)] else A (szr n left)):=by
 rw [wr_left h1 h2 h3]
 by_cases hs:(n:Int)≤left
 ·rw [szr_yes hs]
 ·rw [szr_not hs,if_pos (by simp;omega),if_pos (by simp)]
theorem has_strs {p:PV} (hp:Sh.has (.list [.str]) p):∃l:List ByteArray,p=strs l∧(l.length≤maxLen∧∀y∈l,y.size≤maxLen):=by
 obtain ⟨l,h1,h2,h3⟩:=has_map (enc:=rS) (wf:=fun y=>y.size≤maxLen) (fun r hr=>by
  obtain ⟨p,rfl,h⟩:=all_one hr
  obtain ⟨n,rfl,g⟩:=has_str h
  exact ⟨n,rfl,g⟩) 1 rfl hp
 exact ⟨l,h1,h2,h3⟩
theorem Qaa_n (l:List Int) (left:Int) (hw:l.length≤maxLen) (h2:0≤left) (h3:left≤1048576) (k):call Qaa [.one (ints l),.one (I left)] k=k [I (szr l.length left)]:=call_of (fun k=>by
 simp only [Qaa,lenP_eq,List.length_map,binP_sub,wr_left hw h2 h3,binP_lss,iteP_eq,rt_eq,scs_sc,scs_nil,flat_int,true_and,and_true]
 by_cases c:(l.length:Int)≤left
 ·simp [szr_yes c,show ¬(left-(l.length:Int)<0) by omega]
 ·simp [szr_not c,show left-(l.length:Int)<0 by omega]) k
theorem Qbc_n (l:List Int) (h:l.length≤1048576) (k):call Qbc [.one (ints l)] k=k [ints l]:=call_of (fun k=>by
 have hm:=h
 simp [Qbc,show l.length<1073741824 by omega]
 refine lp_toS l rI rI [I 0] 1 1 (.list 1 []) rfl (fun i x hx hi K rows hr hz=>?_) fun K=>?_
 ·simp [-getElem?_pos,Qbc_r0,hx,hi,hr,hz,over,wr_succ (show i<1000000000000000000 by omega)]
 ·simp [Qbc_r0]) k
theorem Qic_n (l:List Int) (h:l.length≤1048576) (k):call Qic [.one (ints l),.one (ints l)] k=k [.bool true]:=call_of (fun k=>by
 have hm:=h
 simp [Qic]
 refine lp_eqS l rI 1 (.bool false) rfl (fun i x hx hi K=>?_) fun K=>?_
 ·simp [-getElem?_pos,Qic_r0,hx,hi,wr_succ (show i<1000000000000000000 by omega)]
 ·simp [Qic_r0]) k
theorem Qai_n (l:List ByteArray) (left:Int) (hw:(l.length≤maxLen∧∀y∈l,y.size≤maxLen)) (h2:0≤left) (h3:left≤1048576) (k):call Qai [.one (strs l),.one (I left)] k=k [I (szr ((l.length+sumN ByteArray.size l)) left)]:=call_of (fun k=>by
 simp only [Qai,lenP_eq,List.length_map,binP_sub,wr_left hw.1 h2 h3,binP_lss,iteP_eq,rt_eq,scs_sc,scs_nil,flat_int,true_and,and_true]
 by_cases c:(l.length:Int)≤left
 rotate_left
 ·simp [szr_over c,show left-(l.length:Int)<0 by omega]
 simp only [szr_add c,show ¬(left-(l.length:Int)<0) by omega,decide_false,Bool.false_eq_true,if_false]
 refine (lp_sz (neg:=k [I (-1)]) (fin:=fun t=>k [I t]) l rS 1 ByteArray.size (left-(l.length:Int)) (I 0) (by omega) (by omega) rfl (fun i x hx hi t ht1 ht2 K=>?_) fun t K=>?_).trans ?_
 ·have e:=wr_left (left:=t) (hw.2 x (List.mem_of_getElem? hx)) ht1 ht2
  simp [-getElem?_pos,Qai_r0,hx,hi,e,wr_succ (show i<1000000000000000000 by have:=hw.1;omega)]
  by_cases hs:(x.size:Int)≤t
  ·simp [hs,show ¬(t-(x.size:Int)<0) by omega]
  ·simp [hs,show t-(x.size:Int)<0 by omega]
 ·simp [Qai_r0]
 ·by_cases hs:((sumN ByteArray.size l:Nat):Int)≤left-(l.length:Int)
  ·simp [szr_yes hs,hs]
  ·simp [szr_not hs,hs]) k
theorem Qbl_n (l:List ByteArray) (h:(l.length+sumN ByteArray.size l)≤1048576) (k):call Qbl [.one (strs l)] k=k [strs l]:=call_of (fun k=>by
 have hm:=h
 simp [Qbl,show l.length<1073741824 by omega]
 refine lp_toS l rS rS [.str ⟨#[]⟩] 1 1 (.list 1 []) rfl (fun i x hx hi K rows hr hz=>?_) fun K=>?_
 ·simp [-getElem?_pos,Qbl_r0,hx,hi,hr,hz,over,wr_succ (show i<1000000000000000000 by omega)]
 ·simp [Qbl_r0]) k
theorem Qil_n (l:List ByteArray) (h:(l.length+sumN ByteArray.size l)≤1048576) (k):call Qil [.one (strs l),.one (strs l)] k=k [.bool true]:=call_of (fun k=>by
 have hm:=h
 simp [Qil]
 refine lp_eqS l rS 1 (.bool false) rfl (fun i x hx hi K=>?_) fun K=>?_
 ·simp [-getElem?_pos,Qil_r0,hx,hi,wr_succ (show i<1000000000000000000 by omega)]
 ·simp [Qil_r0]) k
structure GKeys where
 Lst:List Int
 Need:Int
abbrev eKeys (a:GKeys):List PV:=[ints a.Lst,I a.Need]
def mKeys (a:GKeys):Nat:=a.Lst.length
def WKeys (a:GKeys):Prop:=a.Lst.length≤maxLen
theorem decKeys (r:List PV) (hr:Sh.hasAll [.list [.int .i64],.int .i64] r):∃a:GKeys,r=eKeys a∧WKeys a:=by
 obtain ⟨p1,r1,rfl,h1,hr1⟩:=all_cons hr
 obtain ⟨n1,rfl,g1⟩:=has_ints h1
 obtain ⟨p2,rfl,h2⟩:=all_one hr1
 obtain ⟨n2,rfl⟩:=has_int h2
 exact ⟨⟨n1,n2⟩,rfl,g1⟩
theorem Qad_n (a:GKeys) (left:Int) (hw:WKeys a) (h2:0≤left) (h3:left≤1048576) (k):call Qad [.agg (eKeys a),.one (I left)] k=k [I (szr (mKeys a) left)]:=call_of (fun k=>by
 have g0:=hw
 unfold mKeys
 simp only [Qad,un,cur0,Qaa_n a.Lst (left) g0 h2 h3,binP_lss,iteP_eq,atP_zero,rt_eq,scs_sc,scs_nil,flat_int,true_and,and_true]
 by_cases c0:((a.Lst.length:Nat):Int)≤left
 rotate_left
 ·first | (simp [szr_not c0,szr_not c0];done) | (simp only [szr_not c0,szr_not c0];simp)
 simp only [szr_yes c0,show ¬(left-((a.Lst.length:Nat):Int)<0) by omega,decide_false,Bool.false_eq_true,if_false,binP_lss,iteP_eq,atP_zero,rt_eq,scs_sc,scs_nil,flat_int,true_and,and_true]) k
theorem Qbf_n (a:GKeys) (h:mKeys a≤1048576) (k):call Qbf [.agg (eKeys a)] k=k (eKeys a):=call_of (fun k=>by
 unfold mKeys at h
 simp [Qbf,Qbc_n a.Lst (by omega)]) k
theorem Qif_n (a:GKeys) (h:mKeys a≤1048576) (k):call Qif [.agg (eKeys a),.agg (eKeys a)] k=k [.bool true]:=call_of (fun k=>by
 unfold mKeys at h
 simp [Qif,Qic_n a.Lst (by omega)]) k
structure GSig where
 Key:Int
 Tag:Int
abbrev eSig (a:GSig):List PV:=[I a.Key,I a.Tag]
theorem decSig (r:List PV) (hr:Sh.hasAll [.int .i64,.int .i64] r):∃a:GSig,r=eSig a∧True:=by
 obtain ⟨p1,r1,rfl,h1,hr1⟩:=all_cons hr
 obtain ⟨n1,rfl⟩:=has_int h1
 obtain ⟨p2,rfl,h2⟩:=all_one hr1
 obtain ⟨n2,rfl⟩:=has_int h2
 exact ⟨⟨n1,n2⟩,rfl,trivial⟩
theorem Qbh_n (a:GSig) (k):call Qbh [.agg (eSig a)] k=k (eSig a):=call_of (fun k=>by
 simp [Qbh]) k
theorem Qih_n (a:GSig) (k):call Qih [.agg (eSig a),.agg (eSig a)] k=k [.bool true]:=call_of (fun k=>by
 simp [Qih]) k
structure GEntry where
 Label:ByteArray
 Kind:Int
 Value:Int
 Path:List ByteArray
abbrev eEntry (a:GEntry):List PV:=[.str a.Label,I a.Kind,I a.Value,strs a.Path]
def mEntry (a:GEntry):Nat:=a.Label.size+((a.Path.length+sumN ByteArray.size a.Path))
def WEntry (a:GEntry):Prop:=a.Label.size≤maxLen∧(a.Path.length≤maxLen∧∀y∈a.Path,y.size≤maxLen)
theorem decEntry (r:List PV) (hr:Sh.hasAll [.str,.int .i64,.int .i64,.list [.str]] r):∃a:GEntry,r=eEntry a∧WEntry a:=by
 obtain ⟨p1,r1,rfl,h1,hr1⟩:=all_cons hr
 obtain ⟨n1,rfl,g1⟩:=has_str h1
 obtain ⟨p2,r2,rfl,h2,hr2⟩:=all_cons hr1
 obtain ⟨n2,rfl⟩:=has_int h2
 obtain ⟨p3,r3,rfl,h3,hr3⟩:=all_cons hr2
 obtain ⟨n3,rfl⟩:=has_int h3
 obtain ⟨p4,rfl,h4⟩:=all_one hr3
 obtain ⟨n4,rfl,g4⟩:=has_strs h4
 exact ⟨⟨n1,n2,n3,n4⟩,rfl,⟨g1,g4⟩⟩
theorem Qaj_n (a:GEntry) (left:Int) (hw:WEntry a) (h2:0≤left) (h3:left≤1048576) (k):call Qaj [.agg (eEntry a),.one (I left)] k=k [I (szr (mEntry a) left)]:=call_of (fun k=>by
 obtain ⟨g0,g1⟩:=hw
 unfold mEntry
 simp only [Qaj,un,cur0,lenS_eq,binP_sub,wr_left (left:=left) g0 h2 h3,binP_lss,iteP_eq,atP_zero,rt_eq,scs_sc,scs_nil,flat_int,true_and,and_true]
 by_cases c0:((a.Label.size:Nat):Int)≤left
 rotate_left
 ·first | (simp [szr_over c0,show left-((a.Label.size:Nat):Int)<0 by omega];done) | (simp only [szr_over c0,show left-((a.Label.size:Nat):Int)<0 by omega];simp)
 simp only [szr_yes c0,szr_add c0,show ¬(left-((a.Label.size:Nat):Int)<0) by omega,decide_false,Bool.false_eq_true,if_false,Qai_n a.Path (left-((a.Label.size:Nat):Int)) g1 (by omega) (by omega),binP_lss,iteP_eq,atP_zero,rt_eq,scs_sc,scs_nil,flat_int,true_and,and_true]
 by_cases c1:(((a.Path.length+sumN ByteArray.size a.Path):Nat):Int)≤left-((a.Label.size:Nat):Int)
 rotate_left
 ·first | (simp [szr_not c1,szr_not c1];done) | (simp only [szr_not c1,szr_not c1];simp)
 simp only [szr_yes c1,show ¬(left-((a.Label.size:Nat):Int)-(((a.Path.length+sumN ByteArray.size a.Path):Nat):Int)<0) by omega,decide_false,Bool.false_eq_true,if_false,binP_lss,iteP_eq,atP_zero,rt_eq,scs_sc,scs_nil,flat_int,true_and,and_true]) k
theorem Qbm_n (a:GEntry) (h:mEntry a≤1048576) (k):call Qbm [.agg (eEntry a)] k=k (eEntry a):=call_of (fun k=>by
 unfold mEntry at h
 simp [Qbm,Qbl_n a.Path (by omega)]) k
theorem Qim_n (a:GEntry) (h:mEntry a≤1048576) (k):call Qim [.agg (eEntry a),.agg (eEntry a)] k=k [.bool true]:=call_of (fun k=>by
 unfold mEntry at h
 simp [Qim,Qil_n a.Path (by omega)]) k
structure GProof where
 At:Int
 Path:List Int
abbrev eProof (a:GProof):List PV:=[I a.At,ints a.Path]
def mProof (a:GProof):Nat:=a.Path.length
def WProof (a:GProof):Prop:=a.Path.length≤maxLen
theorem decProof (r:List PV) (hr:Sh.hasAll [.int .i64,.list [.int .i64]] r):∃a:GProof,r=eProof a∧WProof a:=by
 obtain ⟨p1,r1,rfl,h1,hr1⟩:=all_cons hr
 obtain ⟨n1,rfl⟩:=has_int h1
 obtain ⟨p2,rfl,h2⟩:=all_one hr1
 obtain ⟨n2,rfl,g2⟩:=has_ints h2
 exact ⟨⟨n1,n2⟩,rfl,g2⟩
theorem Qav_n (a:GProof) (left:Int) (hw:WProof a) (h2:0≤left) (h3:left≤1048576) (k):call Qav [.agg (eProof a),.one (I left)] k=k [I (szr (mProof a) left)]:=call_of (fun k=>by
 have g0:=hw
 unfold mProof
 simp only [Qav,un,cur0,Qaa_n a.Path (left) g0 h2 h3,binP_lss,iteP_eq,atP_zero,rt_eq,scs_sc,scs_nil,flat_int,true_and,and_true]
 by_cases c0:((a.Path.length:Nat):Int)≤left
 rotate_left
 ·first | (simp [szr_not c0,szr_not c0];done) | (simp only [szr_not c0,szr_not c0];simp)
 simp only [szr_yes c0,show ¬(left-((a.Path.length:Nat):Int)<0) by omega,decide_false,Bool.false_eq_true,if_false,binP_lss,iteP_eq,atP_zero,rt_eq,scs_sc,scs_nil,flat_int,true_and,and_true]) k
theorem Qby_n (a:GProof) (h:mProof a≤1048576) (k):call Qby [.agg (eProof a)] k=k (eProof a):=call_of (fun k=>by
 unfold mProof at h
 simp [Qby,Qbc_n a.Path (by omega)]) k
theorem Qiy_n (a:GProof) (h:mProof a≤1048576) (k):call Qiy [.agg (eProof a),.agg (eProof a)] k=k [.bool true]:=call_of (fun k=>by
 unfold mProof at h
 simp [Qiy,Qic_n a.Path (by omega)]) k
structure GGap where
 At:Int
 Before:GEntry
 After:GEntry
 Left:GProof
 Right:GProof
abbrev eGap (a:GGap):List PV:=[I a.At,.str a.Before.Label,I a.Before.Kind,I a.Before.Value,strs a.Before.Path,.str a.After.Label,I a.After.Kind,I a.After.Value,strs a.After.Path,I a.Left.At,ints a.Left.Path,I a.Right.At,ints a.Right.Path]
def mGap (a:GGap):Nat:=mEntry a.Before+(mEntry a.After+(mProof a.Left+(mProof a.Right)))
def WGap (a:GGap):Prop:=WEntry a.Before∧WEntry a.After∧WProof a.Left∧WProof a.Right
theorem decGap (r:List PV) (hr:Sh.hasAll [.int .i64,.str,.int .i64,.int .i64,.list [.str],.str,.int .i64,.int .i64,.list [.str],.int .i64,.list [.int .i64],.int .i64,.list [.int .i64]] r):∃a:GGap,r=eGap a∧WGap a:=by
 obtain ⟨p1,r1,rfl,h1,hr1⟩:=all_cons hr
 obtain ⟨n1,rfl⟩:=has_int h1
 obtain ⟨p2,r2,rfl,h2,hr2⟩:=all_cons hr1
 obtain ⟨n2,rfl,g2⟩:=has_str h2
 obtain ⟨p3,r3,rfl,h3,hr3⟩:=all_cons hr2
 obtain ⟨n3,rfl⟩:=has_int h3
 obtain ⟨p4,r4,rfl,h4,hr4⟩:=all_cons hr3
 obtain ⟨n4,rfl⟩:=has_int h4
 obtain ⟨p5,r5,rfl,h5,hr5⟩:=all_cons hr4
 obtain ⟨n5,rfl,g5⟩:=has_strs h5
 obtain ⟨p6,r6,rfl,h6,hr6⟩:=all_cons hr5
 obtain ⟨n6,rfl,g6⟩:=has_str h6
 obtain ⟨p7,r7,rfl,h7,hr7⟩:=all_cons hr6
 obtain ⟨n7,rfl⟩:=has_int h7
 obtain ⟨p8,r8,rfl,h8,hr8⟩:=all_cons hr7
 obtain ⟨n8,rfl⟩:=has_int h8
 obtain ⟨p9,r9,rfl,h9,hr9⟩:=all_cons hr8
 obtain ⟨n9,rfl,g9⟩:=has_strs h9
 obtain ⟨p10,r10,rfl,h10,hr10⟩:=all_cons hr9
 obtain ⟨n10,rfl⟩:=has_int h10
 obtain ⟨p11,r11,rfl,h11,hr11⟩:=all_cons hr10
 obtain ⟨n11,rfl,g11⟩:=has_ints h11
 obtain ⟨p12,r12,rfl,h12,hr12⟩:=all_cons hr11
 obtain ⟨n12,rfl⟩:=has_int h12
 obtain ⟨p13,rfl,h13⟩:=all_one hr12
 obtain ⟨n13,rfl,g13⟩:=has_ints h13
 exact ⟨⟨n1,⟨n2,n3,n4,n5⟩,⟨n6,n7,n8,n9⟩,⟨n10,n11⟩,⟨n12,n13⟩⟩,rfl,⟨⟨g2,g5⟩,⟨g6,g9⟩,g11,g13⟩⟩
theorem Qaw_n (a:GGap) (left:Int) (hw:WGap a) (h2:0≤left) (h3:left≤1048576) (k):call Qaw [.agg (eGap a),.one (I left)] k=k [I (szr (mGap a) left)]:=call_of (fun k=>by
 obtain ⟨g0,g1,g2,g3⟩:=hw
 unfold mGap
 simp only [Qaw,un,cur0,Qaj_n a.Before (left) g0 h2 h3,binP_lss,iteP_eq,atP_zero,rt_eq,scs_sc,scs_nil,flat_int,true_and,and_true]
 by_cases c0:((mEntry a.Before:Nat):Int)≤left
 rotate_left
 ·first | (simp [szr_over c0,szr_not c0];done) | (simp only [szr_over c0,szr_not c0];simp)
 simp only [szr_yes c0,szr_add c0,show ¬(left-((mEntry a.Before:Nat):Int)<0) by omega,decide_false,Bool.false_eq_true,if_false,Qaj_n a.After (left-((mEntry a.Before:Nat):Int)) g1 (by omega) (by omega),binP_lss,iteP_eq,atP_zero,rt_eq,scs_sc,scs_nil,flat_int,true_and,and_true]
 by_cases c1:((mEntry a.After:Nat):Int)≤left-((mEntry a.Before:Nat):Int)
 rotate_left
 ·first | (simp [szr_over c1,szr_not c1];done) | (simp only [szr_over c1,szr_not c1];simp)
 simp only [szr_yes c1,szr_add c1,show ¬(left-((mEntry a.Before:Nat):Int)-((mEntry a.After:Nat):Int)<0) by omega,decide_false,Bool.false_eq_true,if_false,Qav_n a.Left (left-((mEntry a.Before:Nat):Int)-((mEntry a.After:Nat):Int)) g2 (by omega) (by omega),binP_lss,iteP_eq,atP_zero,rt_eq,scs_sc,scs_nil,flat_int,true_and,and_true]
 by_cases c2:((mProof a.Left:Nat):Int)≤left-((mEntry a.Before:Nat):Int)-((mEntry a.After:Nat):Int)
 rotate_left
 ·first | (simp [szr_over c2,szr_not c2];done) | (simp only [szr_over c2,szr_not c2];simp)
 simp only [szr_yes c2,szr_add c2,show ¬(left-((mEntry a.Before:Nat):Int)-((mEntry a.After:Nat):Int)-((mProof a.Left:Nat):Int)<0) by omega,decide_false,Bool.false_eq_true,if_false,Qav_n a.Right (left-((mEntry a.Before:Nat):Int)-((mEntry a.After:Nat):Int)-((mProof a.Left:Nat):Int)) g3 (by omega) (by omega),binP_lss,iteP_eq,atP_zero,rt_eq,scs_sc,scs_nil,flat_int,true_and,and_true]
 by_cases c3:((mProof a.Right:Nat):Int)≤left-((mEntry a.Before:Nat):Int)-((mEntry a.After:Nat):Int)-((mProof a.Left:Nat):Int)
 rotate_left
 ·first | (simp [szr_not c3,szr_not c3];done) | (simp only [szr_not c3,szr_not c3];simp)
 simp only [szr_yes c3,show ¬(left-((mEntry a.Before:Nat):Int)-((mEntry a.After:Nat):Int)-((mProof a.Left:Nat):Int)-((mProof a.Right:Nat):Int)<0) by omega,decide_false,Bool.false_eq_true,if_false,binP_lss,iteP_eq,atP_zero,rt_eq,scs_sc,scs_nil,flat_int,true_and,and_true]) k
theorem Qbz_n (a:GGap) (h:mGap a≤1048576) (k):call Qbz [.agg (eGap a)] k=k (eGap a):=call_of (fun k=>by
 unfold mGap at h
 simp [Qbz,Qbm_n a.Before (by omega),Qbm_n a.After (by omega),Qby_n a.Left (by omega),Qby_n a.Right (by omega)]) k
theorem Qiz_n (a:GGap) (h:mGap a≤1048576) (k):call Qiz [.agg (eGap a),.agg (eGap a)] k=k [.bool true]:=call_of (fun k=>by
 unfold mGap at h
 simp [Qiz,Qim_n a.Before (by omega),Qim_n a.After (by omega),Qiy_n a.Left (by omega),Qiy_n a.Right (by omega)]) k
structure GHead where
 Zone:Int
 Epoch:Int
 Kind:Int
 Time:Int
 Until:Int
 Count:Int
 Root:Int
 Prev:Int
 Keys:GKeys
 Heirs:GKeys
 Wait:Int
 Judge:GKeys
 Frozen:Bool
abbrev eHead (a:GHead):List PV:=[I a.Zone,I a.Epoch,I a.Kind,I a.Time,I a.Until,I a.Count,I a.Root,I a.Prev,ints a.Keys.Lst,I a.Keys.Need,ints a.Heirs.Lst,I a.Heirs.Need,I a.Wait,ints a.Judge.Lst,I a.Judge.Need,.bool a.Frozen]
def mHead (a:GHead):Nat:=mKeys a.Keys+(mKeys a.Heirs+(mKeys a.Judge))
def WHead (a:GHead):Prop:=WKeys a.Keys∧WKeys a.Heirs∧WKeys a.Judge
theorem decHead (r:List PV) (hr:Sh.hasAll [.int .i64,.int .i64,.int .i64,.int .i64,.int .i64,.int .i64,.int .i64,.int .i64,.list [.int .i64],.int .i64,.list [.int .i64],.int .i64,.int .i64,.list [.int .i64],.int .i64,.bool] r):∃a:GHead,r=eHead a∧WHead a:=by
 obtain ⟨p1,r1,rfl,h1,hr1⟩:=all_cons hr
 obtain ⟨n1,rfl⟩:=has_int h1
 obtain ⟨p2,r2,rfl,h2,hr2⟩:=all_cons hr1
 obtain ⟨n2,rfl⟩:=has_int h2
 obtain ⟨p3,r3,rfl,h3,hr3⟩:=all_cons hr2
 obtain ⟨n3,rfl⟩:=has_int h3
 obtain ⟨p4,r4,rfl,h4,hr4⟩:=all_cons hr3
 obtain ⟨n4,rfl⟩:=has_int h4
 obtain ⟨p5,r5,rfl,h5,hr5⟩:=all_cons hr4
 obtain ⟨n5,rfl⟩:=has_int h5
 obtain ⟨p6,r6,rfl,h6,hr6⟩:=all_cons hr5
 obtain ⟨n6,rfl⟩:=has_int h6
 obtain ⟨p7,r7,rfl,h7,hr7⟩:=all_cons hr6
 obtain ⟨n7,rfl⟩:=has_int h7
 obtain ⟨p8,r8,rfl,h8,hr8⟩:=all_cons hr7
 obtain ⟨n8,rfl⟩:=has_int h8
 obtain ⟨p9,r9,rfl,h9,hr9⟩:=all_cons hr8
 obtain ⟨n9,rfl,g9⟩:=has_ints h9
 obtain ⟨p10,r10,rfl,h10,hr10⟩:=all_cons hr9
 obtain ⟨n10,rfl⟩:=has_int h10
 obtain ⟨p11,r11,rfl,h11,hr11⟩:=all_cons hr10
 obtain ⟨n11,rfl,g11⟩:=has_ints h11
 obtain ⟨p12,r12,rfl,h12,hr12⟩:=all_cons hr11
 obtain ⟨n12,rfl⟩:=has_int h12
 obtain ⟨p13,r13,rfl,h13,hr13⟩:=all_cons hr12
 obtain ⟨n13,rfl⟩:=has_int h13
 obtain ⟨p14,r14,rfl,h14,hr14⟩:=all_cons hr13
 obtain ⟨n14,rfl,g14⟩:=has_ints h14
 obtain ⟨p15,r15,rfl,h15,hr15⟩:=all_cons hr14
 obtain ⟨n15,rfl⟩:=has_int h15
 obtain ⟨p16,rfl,h16⟩:=all_one hr15
 obtain ⟨n16,rfl⟩:=has_bool h16
 exact ⟨⟨n1,n2,n3,n4,n5,n6,n7,n8,⟨n9,n10⟩,⟨n11,n12⟩,n13,⟨n14,n15⟩,n16⟩,rfl,⟨g9,g11,g14⟩⟩
theorem Qae_n (a:GHead) (left:Int) (hw:WHead a) (h2:0≤left) (h3:left≤1048576) (k):call Qae [.agg (eHead a),.one (I left)] k=k [I (szr (mHead a) left)]:=call_of (fun k=>by
 obtain ⟨g0,g1,g2⟩:=hw
 unfold mHead
 simp only [Qae,un,cur0,Qad_n a.Keys (left) g0 h2 h3,binP_lss,iteP_eq,atP_zero,rt_eq,scs_sc,scs_nil,flat_int,true_and,and_true]
 by_cases c0:((mKeys a.Keys:Nat):Int)≤left
 rotate_left
 ·first | (simp [szr_over c0,szr_not c0];done) | (simp only [szr_over c0,szr_not c0];simp)
 simp only [szr_yes c0,szr_add c0,show ¬(left-((mKeys a.Keys:Nat):Int)<0) by omega,decide_false,Bool.false_eq_true,if_false,Qad_n a.Heirs (left-((mKeys a.Keys:Nat):Int)) g1 (by omega) (by omega),binP_lss,iteP_eq,atP_zero,rt_eq,scs_sc,scs_nil,flat_int,true_and,and_true]
 by_cases c1:((mKeys a.Heirs:Nat):Int)≤left-((mKeys a.Keys:Nat):Int)
 rotate_left
 ·first | (simp [szr_over c1,szr_not c1];done) | (simp only [szr_over c1,szr_not c1];simp)
 simp only [szr_yes c1,szr_add c1,show ¬(left-((mKeys a.Keys:Nat):Int)-((mKeys a.Heirs:Nat):Int)<0) by omega,decide_false,Bool.false_eq_true,if_false,Qad_n a.Judge (left-((mKeys a.Keys:Nat):Int)-((mKeys a.Heirs:Nat):Int)) g2 (by omega) (by omega),binP_lss,iteP_eq,atP_zero,rt_eq,scs_sc,scs_nil,flat_int,true_and,and_true]
 by_cases c2:((mKeys a.Judge:Nat):Int)≤left-((mKeys a.Keys:Nat):Int)-((mKeys a.Heirs:Nat):Int)
 rotate_left
 ·first | (simp [szr_not c2,szr_not c2];done) | (simp only [szr_not c2,szr_not c2];simp)
 simp only [szr_yes c2,show ¬(left-((mKeys a.Keys:Nat):Int)-((mKeys a.Heirs:Nat):Int)-((mKeys a.Judge:Nat):Int)<0) by omega,decide_false,Bool.false_eq_true,if_false,binP_lss,iteP_eq,atP_zero,rt_eq,scs_sc,scs_nil,flat_int,true_and,and_true]) k
theorem Qbg_n (a:GHead) (h:mHead a≤1048576) (k):call Qbg [.agg (eHead a)] k=k (eHead a):=call_of (fun k=>by
 unfold mHead at h
 simp [Qbg,Qbf_n a.Keys (by omega),Qbf_n a.Heirs (by omega),Qbf_n a.Judge (by omega)]) k
theorem Qig_n (a:GHead) (h:mHead a≤1048576) (k):call Qig [.agg (eHead a),.agg (eHead a)] k=k [.bool true]:=call_of (fun k=>by
 unfold mHead at h
 simp [Qig,Qif_n a.Keys (by omega),Qif_n a.Heirs (by omega),Qif_n a.Judge (by omega)]) k
theorem decSigS {p:PV} (h:Sh.has (.list [.int .i64,.int .i64]) p):∃l:List GSig,p=.list 2 (l.map eSig)∧l.length≤maxLen:=by
 obtain ⟨l,h1,h2,h3⟩:=has_map decSig 2 rfl h
 exact ⟨l,h1,h2⟩
theorem Qaf_n (l:List GSig) (left:Int) (hw:l.length≤maxLen) (h2:0≤left) (h3:left≤1048576) (k):call Qaf [.one (.list 2 (l.map eSig)),.one (I left)] k=k [I (szr l.length left)]:=call_of (fun k=>by
 simp only [Qaf,lenP_eq,List.length_map,binP_sub,wr_left hw h2 h3,binP_lss,iteP_eq,rt_eq,scs_sc,scs_nil,flat_int,true_and,and_true]
 by_cases c:(l.length:Int)≤left
 ·simp [szr_yes c,show ¬(left-(l.length:Int)<0) by omega]
 ·simp [szr_not c,show left-(l.length:Int)<0 by omega]) k
theorem Qbi_n (l:List GSig) (h:l.length≤1048576) (k):call Qbi [.one (.list 2 (l.map eSig))] k=k [.list 2 (l.map eSig)]:=call_of (fun k=>by
 have hm:=h
 simp [Qbi,show l.length<1073741824 by omega]
 refine lp_toS l eSig eSig [I 0,I 0] 2 2 (.list 2 []) rfl (fun i x hx hi K rows hr hz=>?_) fun K=>?_
 ·simp [-getElem?_pos,Qbi_r0,hx,hi,hr,hz,over,Qbh_n x,wr_succ (show i<1000000000000000000 by omega)]
 ·simp [Qbi_r0]) k
theorem Qii_n (l:List GSig) (h:l.length≤1048576) (k):call Qii [.one (.list 2 (l.map eSig)),.one (.list 2 (l.map eSig))] k=k [.bool true]:=call_of (fun k=>by
 have hm:=h
 simp [Qii]
 refine lp_eqS l eSig 2 (.bool false) rfl (fun i x hx hi K=>?_) fun K=>?_
 ·simp [-getElem?_pos,Qii_r0,hx,hi,Qih_n x,wr_succ (show i<1000000000000000000 by omega)]
 ·simp [Qii_r0]) k
structure GSigned where
 Head:GHead
 Sigs:List GSig
abbrev eSigned (a:GSigned):List PV:=[I a.Head.Zone,I a.Head.Epoch,I a.Head.Kind,I a.Head.Time,I a.Head.Until,I a.Head.Count,I a.Head.Root,I a.Head.Prev,ints a.Head.Keys.Lst,I a.Head.Keys.Need,ints a.Head.Heirs.Lst,I a.Head.Heirs.Need,I a.Head.Wait,ints a.Head.Judge.Lst,I a.Head.Judge.Need,.bool a.Head.Frozen,.list 2 (a.Sigs.map eSig)]
def mSigned (a:GSigned):Nat:=mHead a.Head+(a.Sigs.length)
def WSigned (a:GSigned):Prop:=WHead a.Head∧a.Sigs.length≤maxLen
theorem decSigned (r:List PV) (hr:Sh.hasAll [.int .i64,.int .i64,.int .i64,.int .i64,.int .i64,.int .i64,.int .i64,.int .i64,.list [.int .i64],.int .i64,.list [.int .i64],.int .i64,.int .i64,.list [.int .i64],.int .i64,.bool,.list [.int .i64,.int .i64]] r):∃a:GSigned,r=eSigned a∧WSigned a:=by
 obtain ⟨p1,r1,rfl,h1,hr1⟩:=all_cons hr
 obtain ⟨n1,rfl⟩:=has_int h1
 obtain ⟨p2,r2,rfl,h2,hr2⟩:=all_cons hr1
 obtain ⟨n2,rfl⟩:=has_int h2
 obtain ⟨p3,r3,rfl,h3,hr3⟩:=all_cons hr2
 obtain ⟨n3,rfl⟩:=has_int h3
 obtain ⟨p4,r4,rfl,h4,hr4⟩:=all_cons hr3
 obtain ⟨n4,rfl⟩:=has_int h4
 obtain ⟨p5,r5,rfl,h5,hr5⟩:=all_cons hr4
 obtain ⟨n5,rfl⟩:=has_int h5
 obtain ⟨p6,r6,rfl,h6,hr6⟩:=all_cons hr5
 obtain ⟨n6,rfl⟩:=has_int h6
 obtain ⟨p7,r7,rfl,h7,hr7⟩:=all_cons hr6
 obtain ⟨n7,rfl⟩:=has_int h7
 obtain ⟨p8,r8,rfl,h8,hr8⟩:=all_cons hr7
 obtain ⟨n8,rfl⟩:=has_int h8
 obtain ⟨p9,r9,rfl,h9,hr9⟩:=all_cons hr8
 obtain ⟨n9,rfl,g9⟩:=has_ints h9
 obtain ⟨p10,r10,rfl,h10,hr10⟩:=all_cons hr9
 obtain ⟨n10,rfl⟩:=has_int h10
 obtain ⟨p11,r11,rfl,h11,hr11⟩:=all_cons hr10
 obtain ⟨n11,rfl,g11⟩:=has_ints h11
 obtain ⟨p12,r12,rfl,h12,hr12⟩:=all_cons hr11
 obtain ⟨n12,rfl⟩:=has_int h12
 obtain ⟨p13,r13,rfl,h13,hr13⟩:=all_cons hr12
 obtain ⟨n13,rfl⟩:=has_int h13
 obtain ⟨p14,r14,rfl,h14,hr14⟩:=all_cons hr13
 obtain ⟨n14,rfl,g14⟩:=has_ints h14
 obtain ⟨p15,r15,rfl,h15,hr15⟩:=all_cons hr14
 obtain ⟨n15,rfl⟩:=has_int h15
 obtain ⟨p16,r16,rfl,h16,hr16⟩:=all_cons hr15
 obtain ⟨n16,rfl⟩:=has_bool h16
 obtain ⟨p17,rfl,h17⟩:=all_one hr16
 obtain ⟨n17,rfl,g17⟩:=decSigS h17
 exact ⟨⟨⟨n1,n2,n3,n4,n5,n6,n7,n8,⟨n9,n10⟩,⟨n11,n12⟩,n13,⟨n14,n15⟩,n16⟩,n17⟩,rfl,⟨⟨g9,g11,g14⟩,g17⟩⟩
theorem Qag_n (a:GSigned) (left:Int) (hw:WSigned a) (h2:0≤left) (h3:left≤1048576) (k):call Qag [.agg (eSigned a),.one (I left)] k=k [I (szr (mSigned a) left)]:=call_of (fun k=>by
 obtain ⟨g0,g1⟩:=hw
 unfold mSigned
 simp only [Qag,un,cur0,Qae_n a.Head (left) g0 h2 h3,binP_lss,iteP_eq,atP_zero,rt_eq,scs_sc,scs_nil,flat_int,true_and,and_true]
 by_cases c0:((mHead a.Head:Nat):Int)≤left
 rotate_left
 ·first | (simp [szr_over c0,szr_not c0];done) | (simp only [szr_over c0,szr_not c0];simp)
 simp only [szr_yes c0,szr_add c0,show ¬(left-((mHead a.Head:Nat):Int)<0) by omega,decide_false,Bool.false_eq_true,if_false,Qaf_n a.Sigs (left-((mHead a.Head:Nat):Int)) g1 (by omega) (by omega),binP_lss,iteP_eq,atP_zero,rt_eq,scs_sc,scs_nil,flat_int,true_and,and_true]
 by_cases c1:((a.Sigs.length:Nat):Int)≤left-((mHead a.Head:Nat):Int)
 rotate_left
 ·first | (simp [szr_not c1,szr_not c1];done) | (simp only [szr_not c1,szr_not c1];simp)
 simp only [szr_yes c1,show ¬(left-((mHead a.Head:Nat):Int)-((a.Sigs.length:Nat):Int)<0) by omega,decide_false,Bool.false_eq_true,if_false,binP_lss,iteP_eq,atP_zero,rt_eq,scs_sc,scs_nil,flat_int,true_and,and_true]) k
theorem Qbj_n (a:GSigned) (h:mSigned a≤1048576) (k):call Qbj [.agg (eSigned a)] k=k (eSigned a):=call_of (fun k=>by
 unfold mSigned at h
 simp [Qbj,Qbg_n a.Head (by omega),Qbi_n a.Sigs (by omega)]) k
theorem Qij_n (a:GSigned) (h:mSigned a≤1048576) (k):call Qij [.agg (eSigned a),.agg (eSigned a)] k=k [.bool true]:=call_of (fun k=>by
 unfold mSigned at h
 simp [Qij,Qig_n a.Head (by omega),Qii_n a.Sigs (by omega)]) k
structure GFork where
 Before:GSigned
 A:GSigned
 B:GSigned
abbrev eFork (a:GFork):List PV:=[I a.Before.Head.Zone,I a.Before.Head.Epoch,I a.Before.Head.Kind,I a.Before.Head.Time,I a.Before.Head.Until,I a.Before.Head.Count,I a.Before.Head.Root,I a.Before.Head.Prev,ints a.Before.Head.Keys.Lst,I a.Before.Head.Keys.Need,ints a.Before.Head.Heirs.Lst,I a.Before.Head.Heirs.Need,I a.Before.Head.Wait,ints a.Before.Head.Judge.Lst,I a.Before.Head.Judge.Need,.bool a.Before.Head.Frozen,.list 2 (a.Before.Sigs.map eSig),I a.A.Head.Zone,I a.A.Head.Epoch,I a.A.Head.Kind,I a.A.Head.Time,I a.A.Head.Until,I a.A.Head.Count,I a.A.Head.Root,I a.A.Head.Prev,ints a.A.Head.Keys.Lst,I a.A.Head.Keys.Need,ints a.A.Head.Heirs.Lst,I a.A.Head.Heirs.Need,I a.A.Head.Wait,ints a.A.Head.Judge.Lst,I a.A.Head.Judge.Need,.bool a.A.Head.Frozen,.list 2 (a.A.Sigs.map eSig),I a.B.Head.Zone,I a.B.Head.Epoch,I a.B.Head.Kind,I a.B.Head.Time,I a.B.Head.Until,I a.B.Head.Count,I a.B.Head.Root,I a.B.Head.Prev,ints a.B.Head.Keys.Lst,I a.B.Head.Keys.Need,ints a.B.Head.Heirs.Lst,I a.B.Head.Heirs.Need,I a.B.Head.Wait,ints a.B.Head.Judge.Lst,I a.B.Head.Judge.Need,.bool a.B.Head.Frozen,.list 2 (a.B.Sigs.map eSig)]
def mFork (a:GFork):Nat:=mSigned a.Before+(mSigned a.A+(mSigned a.B))
def WFork (a:GFork):Prop:=WSigned a.Before∧WSigned a.A∧WSigned a.B
theorem decFork (r:List PV) (hr:Sh.hasAll [.int .i64,.int .i64,.int .i64,.int .i64,.int .i64,.int .i64,.int .i64,.int .i64,.list [.int .i64],.int .i64,.list [.int .i64],.int .i64,.int .i64,.list [.int .i64],.int .i64,.bool,.list [.int .i64,.int .i64],.int .i64,.int .i64,.int .i64,.int .i64,.int .i64,.int .i64,.int .i64,.int .i64,.list [.int .i64],.int .i64,.list [.int .i64],.int .i64,.int .i64,.list [.int .i64],.int .i64,.bool,.list [.int .i64,.int .i64],.int .i64,.int .i64,.int .i64,.int .i64,.int .i64,.int .i64,.int .i64,.int .i64,.list [.int .i64],.int .i64,.list [.int .i64],.int .i64,.int .i64,.list [.int .i64],.int .i64,.bool,.list [.int .i64,.int .i64]] r):∃a:GFork,r=eFork a∧WFork a:=by
 obtain ⟨p1,r1,rfl,h1,hr1⟩:=all_cons hr
 obtain ⟨n1,rfl⟩:=has_int h1
 obtain ⟨p2,r2,rfl,h2,hr2⟩:=all_cons hr1
 obtain ⟨n2,rfl⟩:=has_int h2
 obtain ⟨p3,r3,rfl,h3,hr3⟩:=all_cons hr2
 obtain ⟨n3,rfl⟩:=has_int h3
 obtain ⟨p4,r4,rfl,h4,hr4⟩:=all_cons hr3
 obtain ⟨n4,rfl⟩:=has_int h4
 obtain ⟨p5,r5,rfl,h5,hr5⟩:=all_cons hr4
 obtain ⟨n5,rfl⟩:=has_int h5
 obtain ⟨p6,r6,rfl,h6,hr6⟩:=all_cons hr5
 obtain ⟨n6,rfl⟩:=has_int h6
 obtain ⟨p7,r7,rfl,h7,hr7⟩:=all_cons hr6
 obtain ⟨n7,rfl⟩:=has_int h7
 obtain ⟨p8,r8,rfl,h8,hr8⟩:=all_cons hr7
 obtain ⟨n8,rfl⟩:=has_int h8
 obtain ⟨p9,r9,rfl,h9,hr9⟩:=all_cons hr8
 obtain ⟨n9,rfl,g9⟩:=has_ints h9
 obtain ⟨p10,r10,rfl,h10,hr10⟩:=all_cons hr9
 obtain ⟨n10,rfl⟩:=has_int h10
 obtain ⟨p11,r11,rfl,h11,hr11⟩:=all_cons hr10
 obtain ⟨n11,rfl,g11⟩:=has_ints h11
 obtain ⟨p12,r12,rfl,h12,hr12⟩:=all_cons hr11
 obtain ⟨n12,rfl⟩:=has_int h12
 obtain ⟨p13,r13,rfl,h13,hr13⟩:=all_cons hr12
 obtain ⟨n13,rfl⟩:=has_int h13
 obtain ⟨p14,r14,rfl,h14,hr14⟩:=all_cons hr13
 obtain ⟨n14,rfl,g14⟩:=has_ints h14
 obtain ⟨p15,r15,rfl,h15,hr15⟩:=all_cons hr14
 obtain ⟨n15,rfl⟩:=has_int h15
 obtain ⟨p16,r16,rfl,h16,hr16⟩:=all_cons hr15
 obtain ⟨n16,rfl⟩:=has_bool h16
 obtain ⟨p17,r17,rfl,h17,hr17⟩:=all_cons hr16
 obtain ⟨n17,rfl,g17⟩:=decSigS h17
 obtain ⟨p18,r18,rfl,h18,hr18⟩:=all_cons hr17
 obtain ⟨n18,rfl⟩:=has_int h18
 obtain ⟨p19,r19,rfl,h19,hr19⟩:=all_cons hr18
 obtain ⟨n19,rfl⟩:=has_int h19
 obtain ⟨p20,r20,rfl,h20,hr20⟩:=all_cons hr19
 obtain ⟨n20,rfl⟩:=has_int h20
 obtain ⟨p21,r21,rfl,h21,hr21⟩:=all_cons hr20
 obtain ⟨n21,rfl⟩:=has_int h21
 obtain ⟨p22,r22,rfl,h22,hr22⟩:=all_cons hr21
 obtain ⟨n22,rfl⟩:=has_int h22
 obtain ⟨p23,r23,rfl,h23,hr23⟩:=all_cons hr22
 obtain ⟨n23,rfl⟩:=has_int h23
 obtain ⟨p24,r24,rfl,h24,hr24⟩:=all_cons hr23
 obtain ⟨n24,rfl⟩:=has_int h24
 obtain ⟨p25,r25,rfl,h25,hr25⟩:=all_cons hr24
 obtain ⟨n25,rfl⟩:=has_int h25
 obtain ⟨p26,r26,rfl,h26,hr26⟩:=all_cons hr25
 obtain ⟨n26,rfl,g26⟩:=has_ints h26
 obtain ⟨p27,r27,rfl,h27,hr27⟩:=all_cons hr26
 obtain ⟨n27,rfl⟩:=has_int h27
 obtain ⟨p28,r28,rfl,h28,hr28⟩:=all_cons hr27
 obtain ⟨n28,rfl,g28⟩:=has_ints h28
 obtain ⟨p29,r29,rfl,h29,hr29⟩:=all_cons hr28
 obtain ⟨n29,rfl⟩:=has_int h29
 obtain ⟨p30,r30,rfl,h30,hr30⟩:=all_cons hr29
 obtain ⟨n30,rfl⟩:=has_int h30
 obtain ⟨p31,r31,rfl,h31,hr31⟩:=all_cons hr30
 obtain ⟨n31,rfl,g31⟩:=has_ints h31
 obtain ⟨p32,r32,rfl,h32,hr32⟩:=all_cons hr31
 obtain ⟨n32,rfl⟩:=has_int h32
 obtain ⟨p33,r33,rfl,h33,hr33⟩:=all_cons hr32
 obtain ⟨n33,rfl⟩:=has_bool h33
 obtain ⟨p34,r34,rfl,h34,hr34⟩:=all_cons hr33
 obtain ⟨n34,rfl,g34⟩:=decSigS h34
 obtain ⟨p35,r35,rfl,h35,hr35⟩:=all_cons hr34
 obtain ⟨n35,rfl⟩:=has_int h35
 obtain ⟨p36,r36,rfl,h36,hr36⟩:=all_cons hr35
 obtain ⟨n36,rfl⟩:=has_int h36
 obtain ⟨p37,r37,rfl,h37,hr37⟩:=all_cons hr36
 obtain ⟨n37,rfl⟩:=has_int h37
 obtain ⟨p38,r38,rfl,h38,hr38⟩:=all_cons hr37
 obtain ⟨n38,rfl⟩:=has_int h38
 obtain ⟨p39,r39,rfl,h39,hr39⟩:=all_cons hr38
 obtain ⟨n39,rfl⟩:=has_int h39
 obtain ⟨p40,r40,rfl,h40,hr40⟩:=all_cons hr39
 obtain ⟨n40,rfl⟩:=has_int h40
 obtain ⟨p41,r41,rfl,h41,hr41⟩:=all_cons hr40
 obtain ⟨n41,rfl⟩:=has_int h41
 obtain ⟨p42,r42,rfl,h42,hr42⟩:=all_cons hr41
 obtain ⟨n42,rfl⟩:=has_int h42
 obtain ⟨p43,r43,rfl,h43,hr43⟩:=all_cons hr42
 obtain ⟨n43,rfl,g43⟩:=has_ints h43
 obtain ⟨p44,r44,rfl,h44,hr44⟩:=all_cons hr43
 obtain ⟨n44,rfl⟩:=has_int h44
 obtain ⟨p45,r45,rfl,h45,hr45⟩:=all_cons hr44
 obtain ⟨n45,rfl,g45⟩:=has_ints h45
 obtain ⟨p46,r46,rfl,h46,hr46⟩:=all_cons hr45
 obtain ⟨n46,rfl⟩:=has_int h46
 obtain ⟨p47,r47,rfl,h47,hr47⟩:=all_cons hr46
 obtain ⟨n47,rfl⟩:=has_int h47
 obtain ⟨p48,r48,rfl,h48,hr48⟩:=all_cons hr47
 obtain ⟨n48,rfl,g48⟩:=has_ints h48
 obtain ⟨p49,r49,rfl,h49,hr49⟩:=all_cons hr48
 obtain ⟨n49,rfl⟩:=has_int h49
 obtain ⟨p50,r50,rfl,h50,hr50⟩:=all_cons hr49
 obtain ⟨n50,rfl⟩:=has_bool h50
 obtain ⟨p51,rfl,h51⟩:=all_one hr50
 obtain ⟨n51,rfl,g51⟩:=decSigS h51
 exact ⟨⟨⟨⟨n1,n2,n3,n4,n5,n6,n7,n8,⟨n9,n10⟩,⟨n11,n12⟩,n13,⟨n14,n15⟩,n16⟩,n17⟩,⟨⟨n18,n19,n20,n21,n22,n23,n24,n25,⟨n26,n27⟩,⟨n28,n29⟩,n30,⟨n31,n32⟩,n33⟩,n34⟩,⟨⟨n35,n36,n37,n38,n39,n40,n41,n42,⟨n43,n44⟩,⟨n45,n46⟩,n47,⟨n48,n49⟩,n50⟩,n51⟩⟩,rfl,⟨⟨⟨g9,g11,g14⟩,g17⟩,⟨⟨g26,g28,g31⟩,g34⟩,⟨⟨g43,g45,g48⟩,g51⟩⟩⟩
theorem Qas_n (a:GFork) (left:Int) (hw:WFork a) (h2:0≤left) (h3:left≤1048576) (k):call Qas [.agg (eFork a),.one (I left)] k=k [I (szr (mFork a) left)]:=call_of (fun k=>by
 obtain ⟨g0,g1,g2⟩:=hw
 unfold mFork
 simp only [Qas,un,cur0,Qag_n a.Before (left) g0 h2 h3,binP_lss,iteP_eq,atP_zero,rt_eq,scs_sc,scs_nil,flat_int,true_and,and_true]
 by_cases c0:((mSigned a.Before:Nat):Int)≤left
 rotate_left
 ·first | (simp [szr_over c0,szr_not c0];done) | (simp only [szr_over c0,szr_not c0];simp)
 simp only [szr_yes c0,szr_add c0,show ¬(left-((mSigned a.Before:Nat):Int)<0) by omega,decide_false,Bool.false_eq_true,if_false,Qag_n a.A (left-((mSigned a.Before:Nat):Int)) g1 (by omega) (by omega),binP_lss,iteP_eq,atP_zero,rt_eq,scs_sc,scs_nil,flat_int,true_and,and_true]
 by_cases c1:((mSigned a.A:Nat):Int)≤left-((mSigned a.Before:Nat):Int)
 rotate_left
 ·first | (simp [szr_over c1,szr_not c1];done) | (simp only [szr_over c1,szr_not c1];simp)
 simp only [szr_yes c1,szr_add c1,show ¬(left-((mSigned a.Before:Nat):Int)-((mSigned a.A:Nat):Int)<0) by omega,decide_false,Bool.false_eq_true,if_false,Qag_n a.B (left-((mSigned a.Before:Nat):Int)-((mSigned a.A:Nat):Int)) g2 (by omega) (by omega),binP_lss,iteP_eq,atP_zero,rt_eq,scs_sc,scs_nil,flat_int,true_and,and_true]
 by_cases c2:((mSigned a.B:Nat):Int)≤left-((mSigned a.Before:Nat):Int)-((mSigned a.A:Nat):Int)
 rotate_left
 ·first | (simp [szr_not c2,szr_not c2];done) | (simp only [szr_not c2,szr_not c2];simp)
 simp only [szr_yes c2,show ¬(left-((mSigned a.Before:Nat):Int)-((mSigned a.A:Nat):Int)-((mSigned a.B:Nat):Int)<0) by omega,decide_false,Bool.false_eq_true,if_false,binP_lss,iteP_eq,atP_zero,rt_eq,scs_sc,scs_nil,flat_int,true_and,and_true]) k
theorem Qbv_n (a:GFork) (h:mFork a≤1048576) (k):call Qbv [.agg (eFork a)] k=k (eFork a):=call_of (fun k=>by
 unfold mFork at h
 simp [Qbv,Qbj_n a.Before (by omega),Qbj_n a.A (by omega),Qbj_n a.B (by omega)]) k
theorem Qiv_n (a:GFork) (h:mFork a≤1048576) (k):call Qiv [.agg (eFork a),.agg (eFork a)] k=k [.bool true]:=call_of (fun k=>by
 unfold mFork at h
 simp [Qiv,Qij_n a.Before (by omega),Qij_n a.A (by omega),Qij_n a.B (by omega)]) k
def mSignedS (l:List GSigned):Nat:=l.length+sumN mSigned l
theorem decSignedS {p:PV} (h:Sh.has (.list [.int .i64,.int .i64,.int .i64,.int .i64,.int .i64,.int .i64,.int .i64,.int .i64,.list [.int .i64],.int .i64,.list [.int .i64],.int .i64,.int .i64,.list [.int .i64],.int .i64,.bool,.list [.int .i64,.int .i64]]) p):∃l:List GSigned,p=.list 17 (l.map eSigned)∧(l.length≤maxLen∧∀y∈l,WSigned y):=by
 obtain ⟨l,h1,h2,h3⟩:=has_map decSigned 17 rfl h
 exact ⟨l,h1,h2,h3⟩
theorem Qah_n (l:List GSigned) (left:Int) (hw:(l.length≤maxLen∧∀y∈l,WSigned y)) (h2:0≤left) (h3:left≤1048576) (k):call Qah [.one (.list 17 (l.map eSigned)),.one (I left)] k=k [I (szr (mSignedS l) left)]:=call_of (fun k=>by
 simp only [Qah,lenP_eq,List.length_map,binP_sub,wr_left hw.1 h2 h3,binP_lss,iteP_eq,rt_eq,scs_sc,scs_nil,flat_int,true_and,and_true]
 unfold mSignedS
 by_cases c:(l.length:Int)≤left
 rotate_left
 ·simp [szr_over c,show left-(l.length:Int)<0 by omega]
 simp only [szr_add c,show ¬(left-(l.length:Int)<0) by omega,decide_false,Bool.false_eq_true,if_false]
 refine (lp_sz (neg:=k [I (-1)]) (fin:=fun t=>k [I t]) l eSigned 17 mSigned (left-(l.length:Int)) (I 0) (by omega) (by omega) rfl (fun i x hx hi t ht1 ht2 K=>?_) fun t K=>?_).trans ?_
 ·have e:=Qag_n x t (hw.2 x (List.mem_of_getElem? hx)) ht1 ht2
  simp [-getElem?_pos,Qah_r0,hx,hi,e,wr_succ (show i<1000000000000000000 by omega)]
  by_cases hs:((mSigned x:Nat):Int)≤t
  ·simp [szr_yes hs,hs,show ¬(t-((mSigned x:Nat):Int)<0) by omega]
  ·simp [szr_not hs,hs]
 ·simp [Qah_r0]
 ·by_cases hs:((sumN mSigned l:Nat):Int)≤left-(l.length:Int)
  ·simp [szr_yes hs,hs]
  ·simp [szr_not hs,hs]) k
theorem Qbk_n (l:List GSigned) (h:mSignedS l≤1048576) (k):call Qbk [.one (.list 17 (l.map eSigned))] k=k [.list 17 (l.map eSigned)]:=call_of (fun k=>by
 have hm:=h
 unfold mSignedS at hm
 simp [Qbk,show l.length<1073741824 by omega]
 refine lp_toS l eSigned eSigned [I 0,I 0,I 0,I 0,I 0,I 0,I 0,I 0,.list 1 [],I 0,.list 1 [],I 0,I 0,.list 1 [],I 0,.bool false,.list 2 []] 17 17 (.list 17 []) rfl (fun i x hx hi K rows hr hz=>?_) fun K=>?_
 ·have hs:mSigned x≤sumN mSigned l:=sumN_mem (s:=mSigned) (List.mem_of_getElem? hx)
  simp [-getElem?_pos,Qbk_r0,hx,hi,hr,hz,over,Qbj_n x (by omega),wr_succ (show i<1000000000000000000 by omega)]
 ·simp [Qbk_r0]) k
theorem Qik_n (l:List GSigned) (h:mSignedS l≤1048576) (k):call Qik [.one (.list 17 (l.map eSigned)),.one (.list 17 (l.map eSigned))] k=k [.bool true]:=call_of (fun k=>by
 have hm:=h
 unfold mSignedS at hm
 simp [Qik]
 refine lp_eqS l eSigned 17 (.bool false) rfl (fun i x hx hi K=>?_) fun K=>?_
 ·have hs:mSigned x≤sumN mSigned l:=sumN_mem (s:=mSigned) (List.mem_of_getElem? hx)
  simp [-getElem?_pos,Qik_r0,hx,hi,Qij_n x (by omega),wr_succ (show i<1000000000000000000 by omega)]
 ·simp [Qik_r0]) k
def mEntryS (l:List GEntry):Nat:=l.length+sumN mEntry l
theorem decEntryS {p:PV} (h:Sh.has (.list [.str,.int .i64,.int .i64,.list [.str]]) p):∃l:List GEntry,p=.list 4 (l.map eEntry)∧(l.length≤maxLen∧∀y∈l,WEntry y):=by
 obtain ⟨l,h1,h2,h3⟩:=has_map decEntry 4 rfl h
 exact ⟨l,h1,h2,h3⟩
theorem Qak_n (l:List GEntry) (left:Int) (hw:(l.length≤maxLen∧∀y∈l,WEntry y)) (h2:0≤left) (h3:left≤1048576) (k):call Qak [.one (.list 4 (l.map eEntry)),.one (I left)] k=k [I (szr (mEntryS l) left)]:=call_of (fun k=>by
 simp only [Qak,lenP_eq,List.length_map,binP_sub,wr_left hw.1 h2 h3,binP_lss,iteP_eq,rt_eq,scs_sc,scs_nil,flat_int,true_and,and_true]
 unfold mEntryS
 by_cases c:(l.length:Int)≤left
 rotate_left
 ·simp [szr_over c,show left-(l.length:Int)<0 by omega]
 simp only [szr_add c,show ¬(left-(l.length:Int)<0) by omega,decide_false,Bool.false_eq_true,if_false]
 refine (lp_sz (neg:=k [I (-1)]) (fin:=fun t=>k [I t]) l eEntry 4 mEntry (left-(l.length:Int)) (I 0) (by omega) (by omega) rfl (fun i x hx hi t ht1 ht2 K=>?_) fun t K=>?_).trans ?_
 ·have e:=Qaj_n x t (hw.2 x (List.mem_of_getElem? hx)) ht1 ht2
  simp [-getElem?_pos,Qak_r0,hx,hi,e,wr_succ (show i<1000000000000000000 by omega)]
  by_cases hs:((mEntry x:Nat):Int)≤t
  ·simp [szr_yes hs,hs,show ¬(t-((mEntry x:Nat):Int)<0) by omega]
  ·simp [szr_not hs,hs]
 ·simp [Qak_r0]
 ·by_cases hs:((sumN mEntry l:Nat):Int)≤left-(l.length:Int)
  ·simp [szr_yes hs,hs]
  ·simp [szr_not hs,hs]) k
theorem Qbn_n (l:List GEntry) (h:mEntryS l≤1048576) (k):call Qbn [.one (.list 4 (l.map eEntry))] k=k [.list 4 (l.map eEntry)]:=call_of (fun k=>by
 have hm:=h
 unfold mEntryS at hm
 simp [Qbn,show l.length<1073741824 by omega]
 refine lp_toS l eEntry eEntry [.str ⟨#[]⟩,I 0,I 0,.list 1 []] 4 4 (.list 4 []) rfl (fun i x hx hi K rows hr hz=>?_) fun K=>?_
 ·have hs:mEntry x≤sumN mEntry l:=sumN_mem (s:=mEntry) (List.mem_of_getElem? hx)
  simp [-getElem?_pos,Qbn_r0,hx,hi,hr,hz,over,Qbm_n x (by omega),wr_succ (show i<1000000000000000000 by omega)]
 ·simp [Qbn_r0]) k
theorem Qin_n (l:List GEntry) (h:mEntryS l≤1048576) (k):call Qin [.one (.list 4 (l.map eEntry)),.one (.list 4 (l.map eEntry))] k=k [.bool true]:=call_of (fun k=>by
 have hm:=h
 unfold mEntryS at hm
 simp [Qin]
 refine lp_eqS l eEntry 4 (.bool false) rfl (fun i x hx hi K=>?_) fun K=>?_
 ·have hs:mEntry x≤sumN mEntry l:=sumN_mem (s:=mEntry) (List.mem_of_getElem? hx)
  simp [-getElem?_pos,Qin_r0,hx,hi,Qim_n x (by omega),wr_succ (show i<1000000000000000000 by omega)]
 ·simp [Qin_r0]) k
structure GZone where
 Chain:List GSigned
 Entries:List GEntry
abbrev eZone (a:GZone):List PV:=[.list 17 (a.Chain.map eSigned),.list 4 (a.Entries.map eEntry)]
def mZone (a:GZone):Nat:=mSignedS a.Chain+(mEntryS a.Entries)
def WZone (a:GZone):Prop:=(a.Chain.length≤maxLen∧∀y∈a.Chain,WSigned y)∧(a.Entries.length≤maxLen∧∀y∈a.Entries,WEntry y)
theorem decZone (r:List PV) (hr:Sh.hasAll [.list [.int .i64,.int .i64,.int .i64,.int .i64,.int .i64,.int .i64,.int .i64,.int .i64,.list [.int .i64],.int .i64,.list [.int .i64],.int .i64,.int .i64,.list [.int .i64],.int .i64,.bool,.list [.int .i64,.int .i64]],.list [.str,.int .i64,.int .i64,.list [.str]]] r):∃a:GZone,r=eZone a∧WZone a:=by
 obtain ⟨p1,r1,rfl,h1,hr1⟩:=all_cons hr
 obtain ⟨n1,rfl,g1⟩:=decSignedS h1
 obtain ⟨p2,rfl,h2⟩:=all_one hr1
 obtain ⟨n2,rfl,g2⟩:=decEntryS h2
 exact ⟨⟨n1,n2⟩,rfl,⟨g1,g2⟩⟩
theorem Qal_n (a:GZone) (left:Int) (hw:WZone a) (h2:0≤left) (h3:left≤1048576) (k):call Qal [.agg (eZone a),.one (I left)] k=k [I (szr (mZone a) left)]:=call_of (fun k=>by
 obtain ⟨g0,g1⟩:=hw
 unfold mZone
 simp only [Qal,un,cur0,Qah_n a.Chain (left) g0 h2 h3,binP_lss,iteP_eq,atP_zero,rt_eq,scs_sc,scs_nil,flat_int,true_and,and_true]
 by_cases c0:((mSignedS a.Chain:Nat):Int)≤left
 rotate_left
 ·first | (simp [szr_over c0,szr_not c0];done) | (simp only [szr_over c0,szr_not c0];simp)
 simp only [szr_yes c0,szr_add c0,show ¬(left-((mSignedS a.Chain:Nat):Int)<0) by omega,decide_false,Bool.false_eq_true,if_false,Qak_n a.Entries (left-((mSignedS a.Chain:Nat):Int)) g1 (by omega) (by omega),binP_lss,iteP_eq,atP_zero,rt_eq,scs_sc,scs_nil,flat_int,true_and,and_true]
 by_cases c1:((mEntryS a.Entries:Nat):Int)≤left-((mSignedS a.Chain:Nat):Int)
 rotate_left
 ·first | (simp [szr_not c1,szr_not c1];done) | (simp only [szr_not c1,szr_not c1];simp)
 simp only [szr_yes c1,show ¬(left-((mSignedS a.Chain:Nat):Int)-((mEntryS a.Entries:Nat):Int)<0) by omega,decide_false,Bool.false_eq_true,if_false,binP_lss,iteP_eq,atP_zero,rt_eq,scs_sc,scs_nil,flat_int,true_and,and_true]) k
theorem Qbo_n (a:GZone) (h:mZone a≤1048576) (k):call Qbo [.agg (eZone a)] k=k (eZone a):=call_of (fun k=>by
 unfold mZone at h
 simp [Qbo,Qbk_n a.Chain (by omega),Qbn_n a.Entries (by omega)]) k
theorem Qio_n (a:GZone) (h:mZone a≤1048576) (k):call Qio [.agg (eZone a),.agg (eZone a)] k=k [.bool true]:=call_of (fun k=>by
 unfold mZone at h
 simp [Qio,Qik_n a.Chain (by omega),Qin_n a.Entries (by omega)]) k
structure GAnswer where
 Chain:List GSigned
 Found:Bool
 Entry:GEntry
 Proof:GProof
 Gap:GGap
abbrev eAnswer (a:GAnswer):List PV:=[.list 17 (a.Chain.map eSigned),.bool a.Found,.str a.Entry.Label,I a.Entry.Kind,I a.Entry.Value,strs a.Entry.Path,I a.Proof.At,ints a.Proof.Path,I a.Gap.At,.str a.Gap.Before.Label,I a.Gap.Before.Kind,I a.Gap.Before.Value,strs a.Gap.Before.Path,.str a.Gap.After.Label,I a.Gap.After.Kind,I a.Gap.After.Value,strs a.Gap.After.Path,I a.Gap.Left.At,ints a.Gap.Left.Path,I a.Gap.Right.At,ints a.Gap.Right.Path]
def mAnswer (a:GAnswer):Nat:=mSignedS a.Chain+(mEntry a.Entry+(mProof a.Proof+(mGap a.Gap)))
def WAnswer (a:GAnswer):Prop:=(a.Chain.length≤maxLen∧∀y∈a.Chain,WSigned y)∧WEntry a.Entry∧WProof a.Proof∧WGap a.Gap
theorem decAnswer (r:List PV) (hr:Sh.hasAll [.list [.int .i64,.int .i64,.int .i64,.int .i64,.int .i64,.int .i64,.int .i64,.int .i64,.list [.int .i64],.int .i64,.list [.int .i64],.int .i64,.int .i64,.list [.int .i64],.int .i64,.bool,.list [.int .i64,.int .i64]],.bool,.str,.int .i64,.int .i64,.list [.str],.int .i64,.list [.int .i64],.int .i64,.str,.int .i64,.int .i64,.list [.str],.str,.int .i64,.int .i64,.list [.str],.int .i64,.list [.int .i64],.int .i64,.list [.int .i64]] r):∃a:GAnswer,r=eAnswer a∧WAnswer a:=by
 obtain ⟨p1,r1,rfl,h1,hr1⟩:=all_cons hr
 obtain ⟨n1,rfl,g1⟩:=decSignedS h1
 obtain ⟨p2,r2,rfl,h2,hr2⟩:=all_cons hr1
 obtain ⟨n2,rfl⟩:=has_bool h2
 obtain ⟨p3,r3,rfl,h3,hr3⟩:=all_cons hr2
 obtain ⟨n3,rfl,g3⟩:=has_str h3
 obtain ⟨p4,r4,rfl,h4,hr4⟩:=all_cons hr3
 obtain ⟨n4,rfl⟩:=has_int h4
 obtain ⟨p5,r5,rfl,h5,hr5⟩:=all_cons hr4
 obtain ⟨n5,rfl⟩:=has_int h5
 obtain ⟨p6,r6,rfl,h6,hr6⟩:=all_cons hr5
 obtain ⟨n6,rfl,g6⟩:=has_strs h6
 obtain ⟨p7,r7,rfl,h7,hr7⟩:=all_cons hr6
 obtain ⟨n7,rfl⟩:=has_int h7
 obtain ⟨p8,r8,rfl,h8,hr8⟩:=all_cons hr7
 obtain ⟨n8,rfl,g8⟩:=has_ints h8
 obtain ⟨p9,r9,rfl,h9,hr9⟩:=all_cons hr8
 obtain ⟨n9,rfl⟩:=has_int h9
 obtain ⟨p10,r10,rfl,h10,hr10⟩:=all_cons hr9
 obtain ⟨n10,rfl,g10⟩:=has_str h10
 obtain ⟨p11,r11,rfl,h11,hr11⟩:=all_cons hr10
 obtain ⟨n11,rfl⟩:=has_int h11
 obtain ⟨p12,r12,rfl,h12,hr12⟩:=all_cons hr11
 obtain ⟨n12,rfl⟩:=has_int h12
 obtain ⟨p13,r13,rfl,h13,hr13⟩:=all_cons hr12
 obtain ⟨n13,rfl,g13⟩:=has_strs h13
 obtain ⟨p14,r14,rfl,h14,hr14⟩:=all_cons hr13
 obtain ⟨n14,rfl,g14⟩:=has_str h14
 obtain ⟨p15,r15,rfl,h15,hr15⟩:=all_cons hr14
 obtain ⟨n15,rfl⟩:=has_int h15
 obtain ⟨p16,r16,rfl,h16,hr16⟩:=all_cons hr15
 obtain ⟨n16,rfl⟩:=has_int h16
 obtain ⟨p17,r17,rfl,h17,hr17⟩:=all_cons hr16
 obtain ⟨n17,rfl,g17⟩:=has_strs h17
 obtain ⟨p18,r18,rfl,h18,hr18⟩:=all_cons hr17
 obtain ⟨n18,rfl⟩:=has_int h18
 obtain ⟨p19,r19,rfl,h19,hr19⟩:=all_cons hr18
 obtain ⟨n19,rfl,g19⟩:=has_ints h19
 obtain ⟨p20,r20,rfl,h20,hr20⟩:=all_cons hr19
 obtain ⟨n20,rfl⟩:=has_int h20
 obtain ⟨p21,rfl,h21⟩:=all_one hr20
 obtain ⟨n21,rfl,g21⟩:=has_ints h21
 exact ⟨⟨n1,n2,⟨n3,n4,n5,n6⟩,⟨n7,n8⟩,⟨n9,⟨n10,n11,n12,n13⟩,⟨n14,n15,n16,n17⟩,⟨n18,n19⟩,⟨n20,n21⟩⟩⟩,rfl,⟨g1,⟨g3,g6⟩,g8,⟨⟨g10,g13⟩,⟨g14,g17⟩,g19,g21⟩⟩⟩
theorem Qax_n (a:GAnswer) (left:Int) (hw:WAnswer a) (h2:0≤left) (h3:left≤1048576) (k):call Qax [.agg (eAnswer a),.one (I left)] k=k [I (szr (mAnswer a) left)]:=call_of (fun k=>by
 obtain ⟨g0,g1,g2,g3⟩:=hw
 unfold mAnswer
 simp only [Qax,un,cur0,Qah_n a.Chain (left) g0 h2 h3,binP_lss,iteP_eq,atP_zero,rt_eq,scs_sc,scs_nil,flat_int,true_and,and_true]
 by_cases c0:((mSignedS a.Chain:Nat):Int)≤left
 rotate_left
 ·first | (simp [szr_over c0,szr_not c0];done) | (simp only [szr_over c0,szr_not c0];simp)
 simp only [szr_yes c0,szr_add c0,show ¬(left-((mSignedS a.Chain:Nat):Int)<0) by omega,decide_false,Bool.false_eq_true,if_false,Qaj_n a.Entry (left-((mSignedS a.Chain:Nat):Int)) g1 (by omega) (by omega),binP_lss,iteP_eq,atP_zero,rt_eq,scs_sc,scs_nil,flat_int,true_and,and_true]
 by_cases c1:((mEntry a.Entry:Nat):Int)≤left-((mSignedS a.Chain:Nat):Int)
 rotate_left
 ·first | (simp [szr_over c1,szr_not c1];done) | (simp only [szr_over c1,szr_not c1];simp)
 simp only [szr_yes c1,szr_add c1,show ¬(left-((mSignedS a.Chain:Nat):Int)-((mEntry a.Entry:Nat):Int)<0) by omega,decide_false,Bool.false_eq_true,if_false,Qav_n a.Proof (left-((mSignedS a.Chain:Nat):Int)-((mEntry a.Entry:Nat):Int)) g2 (by omega) (by omega),binP_lss,iteP_eq,atP_zero,rt_eq,scs_sc,scs_nil,flat_int,true_and,and_true]
 by_cases c2:((mProof a.Proof:Nat):Int)≤left-((mSignedS a.Chain:Nat):Int)-((mEntry a.Entry:Nat):Int)
 rotate_left
 ·first | (simp [szr_over c2,szr_not c2];done) | (simp only [szr_over c2,szr_not c2];simp)
 simp only [szr_yes c2,szr_add c2,show ¬(left-((mSignedS a.Chain:Nat):Int)-((mEntry a.Entry:Nat):Int)-((mProof a.Proof:Nat):Int)<0) by omega,decide_false,Bool.false_eq_true,if_false,Qaw_n a.Gap (left-((mSignedS a.Chain:Nat):Int)-((mEntry a.Entry:Nat):Int)-((mProof a.Proof:Nat):Int)) g3 (by omega) (by omega),binP_lss,iteP_eq,atP_zero,rt_eq,scs_sc,scs_nil,flat_int,true_and,and_true]
 by_cases c3:((mGap a.Gap:Nat):Int)≤left-((mSignedS a.Chain:Nat):Int)-((mEntry a.Entry:Nat):Int)-((mProof a.Proof:Nat):Int)
 rotate_left
 ·first | (simp [szr_not c3,szr_not c3];done) | (simp only [szr_not c3,szr_not c3];simp)
 simp only [szr_yes c3,show ¬(left-((mSignedS a.Chain:Nat):Int)-((mEntry a.Entry:Nat):Int)-((mProof a.Proof:Nat):Int)-((mGap a.Gap:Nat):Int)<0) by omega,decide_false,Bool.false_eq_true,if_false,binP_lss,iteP_eq,atP_zero,rt_eq,scs_sc,scs_nil,flat_int,true_and,and_true]) k
theorem Qca_n (a:GAnswer) (h:mAnswer a≤1048576) (k):call Qca [.agg (eAnswer a)] k=k (eAnswer a):=call_of (fun k=>by
 unfold mAnswer at h
 simp [Qca,Qbk_n a.Chain (by omega),Qbm_n a.Entry (by omega),Qby_n a.Proof (by omega),Qbz_n a.Gap (by omega)]) k
theorem Qja_n (a:GAnswer) (h:mAnswer a≤1048576) (k):call Qja [.agg (eAnswer a),.agg (eAnswer a)] k=k [.bool true]:=call_of (fun k=>by
 unfold mAnswer at h
 simp [Qja,Qik_n a.Chain (by omega),Qim_n a.Entry (by omega),Qiy_n a.Proof (by omega),Qiz_n a.Gap (by omega)]) k
def mSignedSS (l:List (List GSigned)):Nat:=l.length+sumN mSignedS l
theorem decSignedSS {p:PV} (h:Sh.has (.list [.list [.int .i64,.int .i64,.int .i64,.int .i64,.int .i64,.int .i64,.int .i64,.int .i64,.list [.int .i64],.int .i64,.list [.int .i64],.int .i64,.int .i64,.list [.int .i64],.int .i64,.bool,.list [.int .i64,.int .i64]]]) p):∃l:List (List GSigned),p=.list 1 (l.map (fun l:List GSigned=>[.list 17 (l.map eSigned)]))∧(l.length≤maxLen∧∀y∈l,(y.length≤maxLen∧∀z∈y,WSigned z)):=by
 obtain ⟨l,h1,h2,h3⟩:=has_map (enc:=(fun l:List GSigned=>[.list 17 (l.map eSigned)])) (wf:=fun y=>(y.length≤maxLen∧∀z∈y,WSigned z)) (fun r hr=>by
  obtain ⟨p,rfl,h⟩:=all_one hr
  obtain ⟨m,rfl,g⟩:=decSignedS h
  exact ⟨m,rfl,g⟩) 1 rfl h
 exact ⟨l,h1,h2,h3⟩
theorem Qar_n (l:List (List GSigned)) (left:Int) (hw:(l.length≤maxLen∧∀y∈l,(y.length≤maxLen∧∀z∈y,WSigned z))) (h2:0≤left) (h3:left≤1048576) (k):call Qar [.one (.list 1 (l.map (fun l:List GSigned=>[.list 17 (l.map eSigned)]))),.one (I left)] k=k [I (szr (mSignedSS l) left)]:=call_of (fun k=>by
 simp only [Qar,lenP_eq,List.length_map,binP_sub,wr_left hw.1 h2 h3,binP_lss,iteP_eq,rt_eq,scs_sc,scs_nil,flat_int,true_and,and_true]
 unfold mSignedSS
 by_cases c:(l.length:Int)≤left
 rotate_left
 ·simp [szr_over c,show left-(l.length:Int)<0 by omega]
 simp only [szr_add c,show ¬(left-(l.length:Int)<0) by omega,decide_false,Bool.false_eq_true,if_false]
 refine (lp_sz (neg:=k [I (-1)]) (fin:=fun t=>k [I t]) l (fun l:List GSigned=>[.list 17 (l.map eSigned)]) 1 mSignedS (left-(l.length:Int)) (I 0) (by omega) (by omega) rfl (fun i x hx hi t ht1 ht2 K=>?_) fun t K=>?_).trans ?_
 ·have e:=Qah_n x t (hw.2 x (List.mem_of_getElem? hx)) ht1 ht2
  simp [-getElem?_pos,Qar_r0,hx,hi,e,wr_succ (show i<1000000000000000000 by omega)]
  by_cases hs:((mSignedS x:Nat):Int)≤t
  ·simp [szr_yes hs,hs,show ¬(t-((mSignedS x:Nat):Int)<0) by omega]
  ·simp [szr_not hs,hs]
 ·simp [Qar_r0]
 ·by_cases hs:((sumN mSignedS l:Nat):Int)≤left-(l.length:Int)
  ·simp [szr_yes hs,hs]
  ·simp [szr_not hs,hs]) k
theorem Qbu_n (l:List (List GSigned)) (h:mSignedSS l≤1048576) (k):call Qbu [.one (.list 1 (l.map (fun l:List GSigned=>[.list 17 (l.map eSigned)])))] k=k [.list 1 (l.map (fun l:List GSigned=>[.list 17 (l.map eSigned)]))]:=call_of (fun k=>by
 have hm:=h
 unfold mSignedSS at hm
 simp [Qbu,show l.length<1073741824 by omega]
 refine lp_toS l (fun l:List GSigned=>[.list 17 (l.map eSigned)]) (fun l:List GSigned=>[.list 17 (l.map eSigned)]) [.list 17 []] 1 1 (.list 1 []) rfl (fun i x hx hi K rows hr hz=>?_) fun K=>?_
 ·have hs:mSignedS x≤sumN mSignedS l:=sumN_mem (s:=mSignedS) (List.mem_of_getElem? hx)
  simp [-getElem?_pos,Qbu_r0,hx,hi,hr,hz,over,Qbk_n x (by omega),wr_succ (show i<1000000000000000000 by omega)]
 ·simp [Qbu_r0]) k
theorem Qiu_n (l:List (List GSigned)) (h:mSignedSS l≤1048576) (k):call Qiu [.one (.list 1 (l.map (fun l:List GSigned=>[.list 17 (l.map eSigned)]))),.one (.list 1 (l.map (fun l:List GSigned=>[.list 17 (l.map eSigned)])))] k=k [.bool true]:=call_of (fun k=>by
 have hm:=h
 unfold mSignedSS at hm
 simp [Qiu]
 refine lp_eqS l (fun l:List GSigned=>[.list 17 (l.map eSigned)]) 1 (.bool false) rfl (fun i x hx hi K=>?_) fun K=>?_
 ·have hs:mSignedS x≤sumN mSignedS l:=sumN_mem (s:=mSignedS) (List.mem_of_getElem? hx)
  simp [-getElem?_pos,Qiu_r0,hx,hi,Qik_n x (by omega),wr_succ (show i<1000000000000000000 by omega)]
 ·simp [Qiu_r0]) k
def mForkS (l:List GFork):Nat:=l.length+sumN mFork l
theorem decForkS {p:PV} (h:Sh.has (.list [.int .i64,.int .i64,.int .i64,.int .i64,.int .i64,.int .i64,.int .i64,.int .i64,.list [.int .i64],.int .i64,.list [.int .i64],.int .i64,.int .i64,.list [.int .i64],.int .i64,.bool,.list [.int .i64,.int .i64],.int .i64,.int .i64,.int .i64,.int .i64,.int .i64,.int .i64,.int .i64,.int .i64,.list [.int .i64],.int .i64,.list [.int .i64],.int .i64,.int .i64,.list [.int .i64],.int .i64,.bool,.list [.int .i64,.int .i64],.int .i64,.int .i64,.int .i64,.int .i64,.int .i64,.int .i64,.int .i64,.int .i64,.list [.int .i64],.int .i64,.list [.int .i64],.int .i64,.int .i64,.list [.int .i64],.int .i64,.bool,.list [.int .i64,.int .i64]]) p):∃l:List GFork,p=.list 51 (l.map eFork)∧(l.length≤maxLen∧∀y∈l,WFork y):=by
 obtain ⟨l,h1,h2,h3⟩:=has_map decFork 51 rfl h
 exact ⟨l,h1,h2,h3⟩
theorem Qat_n (l:List GFork) (left:Int) (hw:(l.length≤maxLen∧∀y∈l,WFork y)) (h2:0≤left) (h3:left≤1048576) (k):call Qat [.one (.list 51 (l.map eFork)),.one (I left)] k=k [I (szr (mForkS l) left)]:=call_of (fun k=>by
 simp only [Qat,lenP_eq,List.length_map,binP_sub,wr_left hw.1 h2 h3,binP_lss,iteP_eq,rt_eq,scs_sc,scs_nil,flat_int,true_and,and_true]
 unfold mForkS
 by_cases c:(l.length:Int)≤left
 rotate_left
 ·simp [szr_over c,show left-(l.length:Int)<0 by omega]
 simp only [szr_add c,show ¬(left-(l.length:Int)<0) by omega,decide_false,Bool.false_eq_true,if_false]
 refine (lp_sz (neg:=k [I (-1)]) (fin:=fun t=>k [I t]) l eFork 51 mFork (left-(l.length:Int)) (I 0) (by omega) (by omega) rfl (fun i x hx hi t ht1 ht2 K=>?_) fun t K=>?_).trans ?_
 ·have e:=Qas_n x t (hw.2 x (List.mem_of_getElem? hx)) ht1 ht2
  simp [-getElem?_pos,Qat_r0,hx,hi,e,wr_succ (show i<1000000000000000000 by omega)]
  by_cases hs:((mFork x:Nat):Int)≤t
  ·simp [szr_yes hs,hs,show ¬(t-((mFork x:Nat):Int)<0) by omega]
  ·simp [szr_not hs,hs]
 ·simp [Qat_r0]
 ·by_cases hs:((sumN mFork l:Nat):Int)≤left-(l.length:Int)
  ·simp [szr_yes hs,hs]
  ·simp [szr_not hs,hs]) k
theorem Qbw_n (l:List GFork) (h:mForkS l≤1048576) (k):call Qbw [.one (.list 51 (l.map eFork))] k=k [.list 51 (l.map eFork)]:=call_of (fun k=>by
 have hm:=h
 unfold mForkS at hm
 simp [Qbw,show l.length<1073741824 by omega]
 refine lp_toS l eFork eFork [I 0,I 0,I 0,I 0,I 0,I 0,I 0,I 0,.list 1 [],I 0,.list 1 [],I 0,I 0,.list 1 [],I 0,.bool false,.list 2 [],I 0,I 0,I 0,I 0,I 0,I 0,I 0,I 0,.list 1 [],I 0,.list 1 [],I 0,I 0,.list 1 [],I 0,.bool false,.list 2 [],I 0,I 0,I 0,I 0,I 0,I 0,I 0,I 0,.list 1 [],I 0,.list 1 [],I 0,I 0,.list 1 [],I 0,.bool false,.list 2 []] 51 51 (.list 51 []) rfl (fun i x hx hi K rows hr hz=>?_) fun K=>?_
 ·have hs:mFork x≤sumN mFork l:=sumN_mem (s:=mFork) (List.mem_of_getElem? hx)
  simp [-getElem?_pos,Qbw_r0,hx,hi,hr,hz,over,Qbv_n x (by omega),wr_succ (show i<1000000000000000000 by omega)]
 ·simp [Qbw_r0]) k
theorem Qiw_n (l:List GFork) (h:mForkS l≤1048576) (k):call Qiw [.one (.list 51 (l.map eFork)),.one (.list 51 (l.map eFork))] k=k [.bool true]:=call_of (fun k=>by
 have hm:=h
 unfold mForkS at hm
 simp [Qiw]
 refine lp_eqS l eFork 51 (.bool false) rfl (fun i x hx hi K=>?_) fun K=>?_
 ·have hs:mFork x≤sumN mFork l:=sumN_mem (s:=mFork) (List.mem_of_getElem? hx)
  simp [-getElem?_pos,Qiw_r0,hx,hi,Qiv_n x (by omega),wr_succ (show i<1000000000000000000 by omega)]
 ·simp [Qiw_r0]) k
structure GKnown where
 Chains:List (List GSigned)
 Forks:List GFork
abbrev eKnown (a:GKnown):List PV:=[.list 1 (a.Chains.map (fun l:List GSigned=>[.list 17 (l.map eSigned)])),.list 51 (a.Forks.map eFork)]
def mKnown (a:GKnown):Nat:=mSignedSS a.Chains+(mForkS a.Forks)
def WKnown (a:GKnown):Prop:=(a.Chains.length≤maxLen∧∀y∈a.Chains,(y.length≤maxLen∧∀z∈y,WSigned z))∧(a.Forks.length≤maxLen∧∀y∈a.Forks,WFork y)
theorem decKnown (r:List PV) (hr:Sh.hasAll [.list [.list [.int .i64,.int .i64,.int .i64,.int .i64,.int .i64,.int .i64,.int .i64,.int .i64,.list [.int .i64],.int .i64,.list [.int .i64],.int .i64,.int .i64,.list [.int .i64],.int .i64,.bool,.list [.int .i64,.int .i64]]],.list [.int .i64,.int .i64,.int .i64,.int .i64,.int .i64,.int .i64,.int .i64,.int .i64,.list [.int .i64],.int .i64,.list [.int .i64],.int .i64,.int .i64,.list [.int .i64],.int .i64,.bool,.list [.int .i64,.int .i64],.int .i64,.int .i64,.int .i64,.int .i64,.int .i64,.int .i64,.int .i64,.int .i64,.list [.int .i64],.int .i64,.list [.int .i64],.int .i64,.int .i64,.list [.int .i64],.int .i64,.bool,.list [.int .i64,.int .i64],.int .i64,.int .i64,.int .i64,.int .i64,.int .i64,.int .i64,.int .i64,.int .i64,.list [.int .i64],.int .i64,.list [.int .i64],.int .i64,.int .i64,.list [.int .i64],.int .i64,.bool,.list [.int .i64,.int .i64]]] r):∃a:GKnown,r=eKnown a∧WKnown a:=by
 obtain ⟨p1,r1,rfl,h1,hr1⟩:=all_cons hr
 obtain ⟨n1,rfl,g1⟩:=decSignedSS h1
 obtain ⟨p2,rfl,h2⟩:=all_one hr1
 obtain ⟨n2,rfl,g2⟩:=decForkS h2
 exact ⟨⟨n1,n2⟩,rfl,⟨g1,g2⟩⟩
theorem Qau_n (a:GKnown) (left:Int) (hw:WKnown a) (h2:0≤left) (h3:left≤1048576) (k):call Qau [.agg (eKnown a),.one (I left)] k=k [I (szr (mKnown a) left)]:=call_of (fun k=>by
 obtain ⟨g0,g1⟩:=hw
 unfold mKnown
 simp only [Qau,un,cur0,Qar_n a.Chains (left) g0 h2 h3,binP_lss,iteP_eq,atP_zero,rt_eq,scs_sc,scs_nil,flat_int,true_and,and_true]
 by_cases c0:((mSignedSS a.Chains:Nat):Int)≤left
 rotate_left
 ·first | (simp [szr_over c0,szr_not c0];done) | (simp only [szr_over c0,szr_not c0];simp)
 simp only [szr_yes c0,szr_add c0,show ¬(left-((mSignedSS a.Chains:Nat):Int)<0) by omega,decide_false,Bool.false_eq_true,if_false,Qat_n a.Forks (left-((mSignedSS a.Chains:Nat):Int)) g1 (by omega) (by omega),binP_lss,iteP_eq,atP_zero,rt_eq,scs_sc,scs_nil,flat_int,true_and,and_true]
 by_cases c1:((mForkS a.Forks:Nat):Int)≤left-((mSignedSS a.Chains:Nat):Int)
 rotate_left
 ·first | (simp [szr_not c1,szr_not c1];done) | (simp only [szr_not c1,szr_not c1];simp)
 simp only [szr_yes c1,show ¬(left-((mSignedSS a.Chains:Nat):Int)-((mForkS a.Forks:Nat):Int)<0) by omega,decide_false,Bool.false_eq_true,if_false,binP_lss,iteP_eq,atP_zero,rt_eq,scs_sc,scs_nil,flat_int,true_and,and_true]) k
theorem Qbx_n (a:GKnown) (h:mKnown a≤1048576) (k):call Qbx [.agg (eKnown a)] k=k (eKnown a):=call_of (fun k=>by
 unfold mKnown at h
 simp [Qbx,Qbu_n a.Chains (by omega),Qbw_n a.Forks (by omega)]) k
theorem Qix_n (a:GKnown) (h:mKnown a≤1048576) (k):call Qix [.agg (eKnown a),.agg (eKnown a)] k=k [.bool true]:=call_of (fun k=>by
 unfold mKnown at h
 simp [Qix,Qiu_n a.Chains (by omega),Qiw_n a.Forks (by omega)]) k
def mZoneS (l:List GZone):Nat:=l.length+sumN mZone l
theorem decZoneS {p:PV} (h:Sh.has (.list [.list [.int .i64,.int .i64,.int .i64,.int .i64,.int .i64,.int .i64,.int .i64,.int .i64,.list [.int .i64],.int .i64,.list [.int .i64],.int .i64,.int .i64,.list [.int .i64],.int .i64,.bool,.list [.int .i64,.int .i64]],.list [.str,.int .i64,.int .i64,.list [.str]]]) p):∃l:List GZone,p=.list 2 (l.map eZone)∧(l.length≤maxLen∧∀y∈l,WZone y):=by
 obtain ⟨l,h1,h2,h3⟩:=has_map decZone 2 rfl h
 exact ⟨l,h1,h2,h3⟩
theorem Qam_n (l:List GZone) (left:Int) (hw:(l.length≤maxLen∧∀y∈l,WZone y)) (h2:0≤left) (h3:left≤1048576) (k):call Qam [.one (.list 2 (l.map eZone)),.one (I left)] k=k [I (szr (mZoneS l) left)]:=call_of (fun k=>by
 simp only [Qam,lenP_eq,List.length_map,binP_sub,wr_left hw.1 h2 h3,binP_lss,iteP_eq,rt_eq,scs_sc,scs_nil,flat_int,true_and,and_true]
 unfold mZoneS
 by_cases c:(l.length:Int)≤left
 rotate_left
 ·simp [szr_over c,show left-(l.length:Int)<0 by omega]
 simp only [szr_add c,show ¬(left-(l.length:Int)<0) by omega,decide_false,Bool.false_eq_true,if_false]
 refine (lp_sz (neg:=k [I (-1)]) (fin:=fun t=>k [I t]) l eZone 2 mZone (left-(l.length:Int)) (I 0) (by omega) (by omega) rfl (fun i x hx hi t ht1 ht2 K=>?_) fun t K=>?_).trans ?_
 ·have e:=Qal_n x t (hw.2 x (List.mem_of_getElem? hx)) ht1 ht2
  simp [-getElem?_pos,Qam_r0,hx,hi,e,wr_succ (show i<1000000000000000000 by omega)]
  by_cases hs:((mZone x:Nat):Int)≤t
  ·simp [szr_yes hs,hs,show ¬(t-((mZone x:Nat):Int)<0) by omega]
  ·simp [szr_not hs,hs]
 ·simp [Qam_r0]
 ·by_cases hs:((sumN mZone l:Nat):Int)≤left-(l.length:Int)
  ·simp [szr_yes hs,hs]
  ·simp [szr_not hs,hs]) k
theorem Qbp_n (l:List GZone) (h:mZoneS l≤1048576) (k):call Qbp [.one (.list 2 (l.map eZone))] k=k [.list 2 (l.map eZone)]:=call_of (fun k=>by
 have hm:=h
 unfold mZoneS at hm
 simp [Qbp,show l.length<1073741824 by omega]
 refine lp_toS l eZone eZone [.list 17 [],.list 4 []] 2 2 (.list 2 []) rfl (fun i x hx hi K rows hr hz=>?_) fun K=>?_
 ·have hs:mZone x≤sumN mZone l:=sumN_mem (s:=mZone) (List.mem_of_getElem? hx)
  simp [-getElem?_pos,Qbp_r0,hx,hi,hr,hz,over,Qbo_n x (by omega),wr_succ (show i<1000000000000000000 by omega)]
 ·simp [Qbp_r0]) k
theorem Qip_n (l:List GZone) (h:mZoneS l≤1048576) (k):call Qip [.one (.list 2 (l.map eZone)),.one (.list 2 (l.map eZone))] k=k [.bool true]:=call_of (fun k=>by
 have hm:=h
 unfold mZoneS at hm
 simp [Qip]
 refine lp_eqS l eZone 2 (.bool false) rfl (fun i x hx hi K=>?_) fun K=>?_
 ·have hs:mZone x≤sumN mZone l:=sumN_mem (s:=mZone) (List.mem_of_getElem? hx)
  simp [-getElem?_pos,Qip_r0,hx,hi,Qio_n x (by omega),wr_succ (show i<1000000000000000000 by omega)]
 ·simp [Qip_r0]) k
structure GServer where
 Zones:List GZone
 Lie:Int
abbrev eServer (a:GServer):List PV:=[.list 2 (a.Zones.map eZone),I a.Lie]
def mServer (a:GServer):Nat:=mZoneS a.Zones
def WServer (a:GServer):Prop:=(a.Zones.length≤maxLen∧∀y∈a.Zones,WZone y)
theorem decServer (r:List PV) (hr:Sh.hasAll [.list [.list [.int .i64,.int .i64,.int .i64,.int .i64,.int .i64,.int .i64,.int .i64,.int .i64,.list [.int .i64],.int .i64,.list [.int .i64],.int .i64,.int .i64,.list [.int .i64],.int .i64,.bool,.list [.int .i64,.int .i64]],.list [.str,.int .i64,.int .i64,.list [.str]]],.int .i64] r):∃a:GServer,r=eServer a∧WServer a:=by
 obtain ⟨p1,r1,rfl,h1,hr1⟩:=all_cons hr
 obtain ⟨n1,rfl,g1⟩:=decZoneS h1
 obtain ⟨p2,rfl,h2⟩:=all_one hr1
 obtain ⟨n2,rfl⟩:=has_int h2
 exact ⟨⟨n1,n2⟩,rfl,g1⟩
theorem Qap_n (a:GServer) (left:Int) (hw:WServer a) (h2:0≤left) (h3:left≤1048576) (k):call Qap [.agg (eServer a),.one (I left)] k=k [I (szr (mServer a) left)]:=call_of (fun k=>by
 have g0:=hw
 unfold mServer
 simp only [Qap,un,cur0,Qam_n a.Zones (left) g0 h2 h3,binP_lss,iteP_eq,atP_zero,rt_eq,scs_sc,scs_nil,flat_int,true_and,and_true]
 by_cases c0:((mZoneS a.Zones:Nat):Int)≤left
 rotate_left
 ·first | (simp [szr_not c0,szr_not c0];done) | (simp only [szr_not c0,szr_not c0];simp)
 simp only [szr_yes c0,show ¬(left-((mZoneS a.Zones:Nat):Int)<0) by omega,decide_false,Bool.false_eq_true,if_false,binP_lss,iteP_eq,atP_zero,rt_eq,scs_sc,scs_nil,flat_int,true_and,and_true]) k
theorem Qbs_n (a:GServer) (h:mServer a≤1048576) (k):call Qbs [.agg (eServer a)] k=k (eServer a):=call_of (fun k=>by
 unfold mServer at h
 simp [Qbs,Qbp_n a.Zones (by omega)]) k
theorem Qis_n (a:GServer) (h:mServer a≤1048576) (k):call Qis [.agg (eServer a),.agg (eServer a)] k=k [.bool true]:=call_of (fun k=>by
 unfold mServer at h
 simp [Qis,Qip_n a.Zones (by omega)]) k
structure GStored where
 Zone:Int
 Label:ByteArray
 Answer:GAnswer
abbrev eStored (a:GStored):List PV:=[I a.Zone,.str a.Label,.list 17 (a.Answer.Chain.map eSigned),.bool a.Answer.Found,.str a.Answer.Entry.Label,I a.Answer.Entry.Kind,I a.Answer.Entry.Value,strs a.Answer.Entry.Path,I a.Answer.Proof.At,ints a.Answer.Proof.Path,I a.Answer.Gap.At,.str a.Answer.Gap.Before.Label,I a.Answer.Gap.Before.Kind,I a.Answer.Gap.Before.Value,strs a.Answer.Gap.Before.Path,.str a.Answer.Gap.After.Label,I a.Answer.Gap.After.Kind,I a.Answer.Gap.After.Value,strs a.Answer.Gap.After.Path,I a.Answer.Gap.Left.At,ints a.Answer.Gap.Left.Path,I a.Answer.Gap.Right.At,ints a.Answer.Gap.Right.Path]
def mStored (a:GStored):Nat:=a.Label.size+(mAnswer a.Answer)
def WStored (a:GStored):Prop:=a.Label.size≤maxLen∧WAnswer a.Answer
theorem decStored (r:List PV) (hr:Sh.hasAll [.int .i64,.str,.list [.int .i64,.int .i64,.int .i64,.int .i64,.int .i64,.int .i64,.int .i64,.int .i64,.list [.int .i64],.int .i64,.list [.int .i64],.int .i64,.int .i64,.list [.int .i64],.int .i64,.bool,.list [.int .i64,.int .i64]],.bool,.str,.int .i64,.int .i64,.list [.str],.int .i64,.list [.int .i64],.int .i64,.str,.int .i64,.int .i64,.list [.str],.str,.int .i64,.int .i64,.list [.str],.int .i64,.list [.int .i64],.int .i64,.list [.int .i64]] r):∃a:GStored,r=eStored a∧WStored a:=by
 obtain ⟨p1,r1,rfl,h1,hr1⟩:=all_cons hr
 obtain ⟨n1,rfl⟩:=has_int h1
 obtain ⟨p2,r2,rfl,h2,hr2⟩:=all_cons hr1
 obtain ⟨n2,rfl,g2⟩:=has_str h2
 obtain ⟨p3,r3,rfl,h3,hr3⟩:=all_cons hr2
 obtain ⟨n3,rfl,g3⟩:=decSignedS h3
 obtain ⟨p4,r4,rfl,h4,hr4⟩:=all_cons hr3
 obtain ⟨n4,rfl⟩:=has_bool h4
 obtain ⟨p5,r5,rfl,h5,hr5⟩:=all_cons hr4
 obtain ⟨n5,rfl,g5⟩:=has_str h5
 obtain ⟨p6,r6,rfl,h6,hr6⟩:=all_cons hr5
 obtain ⟨n6,rfl⟩:=has_int h6
 obtain ⟨p7,r7,rfl,h7,hr7⟩:=all_cons hr6
 obtain ⟨n7,rfl⟩:=has_int h7
 obtain ⟨p8,r8,rfl,h8,hr8⟩:=all_cons hr7
 obtain ⟨n8,rfl,g8⟩:=has_strs h8
 obtain ⟨p9,r9,rfl,h9,hr9⟩:=all_cons hr8
 obtain ⟨n9,rfl⟩:=has_int h9
 obtain ⟨p10,r10,rfl,h10,hr10⟩:=all_cons hr9
 obtain ⟨n10,rfl,g10⟩:=has_ints h10
 obtain ⟨p11,r11,rfl,h11,hr11⟩:=all_cons hr10
 obtain ⟨n11,rfl⟩:=has_int h11
 obtain ⟨p12,r12,rfl,h12,hr12⟩:=all_cons hr11
 obtain ⟨n12,rfl,g12⟩:=has_str h12
 obtain ⟨p13,r13,rfl,h13,hr13⟩:=all_cons hr12
 obtain ⟨n13,rfl⟩:=has_int h13
 obtain ⟨p14,r14,rfl,h14,hr14⟩:=all_cons hr13
 obtain ⟨n14,rfl⟩:=has_int h14
 obtain ⟨p15,r15,rfl,h15,hr15⟩:=all_cons hr14
 obtain ⟨n15,rfl,g15⟩:=has_strs h15
 obtain ⟨p16,r16,rfl,h16,hr16⟩:=all_cons hr15
 obtain ⟨n16,rfl,g16⟩:=has_str h16
 obtain ⟨p17,r17,rfl,h17,hr17⟩:=all_cons hr16
 obtain ⟨n17,rfl⟩:=has_int h17
 obtain ⟨p18,r18,rfl,h18,hr18⟩:=all_cons hr17
 obtain ⟨n18,rfl⟩:=has_int h18
 obtain ⟨p19,r19,rfl,h19,hr19⟩:=all_cons hr18
 obtain ⟨n19,rfl,g19⟩:=has_strs h19
 obtain ⟨p20,r20,rfl,h20,hr20⟩:=all_cons hr19
 obtain ⟨n20,rfl⟩:=has_int h20
 obtain ⟨p21,r21,rfl,h21,hr21⟩:=all_cons hr20
 obtain ⟨n21,rfl,g21⟩:=has_ints h21
 obtain ⟨p22,r22,rfl,h22,hr22⟩:=all_cons hr21
 obtain ⟨n22,rfl⟩:=has_int h22
 obtain ⟨p23,rfl,h23⟩:=all_one hr22
 obtain ⟨n23,rfl,g23⟩:=has_ints h23
 exact ⟨⟨n1,n2,⟨n3,n4,⟨n5,n6,n7,n8⟩,⟨n9,n10⟩,⟨n11,⟨n12,n13,n14,n15⟩,⟨n16,n17,n18,n19⟩,⟨n20,n21⟩,⟨n22,n23⟩⟩⟩⟩,rfl,⟨g2,⟨g3,⟨g5,g8⟩,g10,⟨⟨g12,g15⟩,⟨g16,g19⟩,g21,g23⟩⟩⟩⟩
theorem Qay_n (a:GStored) (left:Int) (hw:WStored a) (h2:0≤left) (h3:left≤1048576) (k):call Qay [.agg (eStored a),.one (I left)] k=k [I (szr (mStored a) left)]:=call_of (fun k=>by
 obtain ⟨g0,g1⟩:=hw
 unfold mStored
 simp only [Qay,un,cur0,lenS_eq,binP_sub,wr_left (left:=left) g0 h2 h3,binP_lss,iteP_eq,atP_zero,rt_eq,scs_sc,scs_nil,flat_int,true_and,and_true]
 by_cases c0:((a.Label.size:Nat):Int)≤left
 rotate_left
 ·first | (simp [szr_over c0,show left-((a.Label.size:Nat):Int)<0 by omega];done) | (simp only [szr_over c0,show left-((a.Label.size:Nat):Int)<0 by omega];simp)
 simp only [szr_yes c0,szr_add c0,show ¬(left-((a.Label.size:Nat):Int)<0) by omega,decide_false,Bool.false_eq_true,if_false,Qax_n a.Answer (left-((a.Label.size:Nat):Int)) g1 (by omega) (by omega),binP_lss,iteP_eq,atP_zero,rt_eq,scs_sc,scs_nil,flat_int,true_and,and_true]
 by_cases c1:((mAnswer a.Answer:Nat):Int)≤left-((a.Label.size:Nat):Int)
 rotate_left
 ·first | (simp [szr_not c1,szr_not c1];done) | (simp only [szr_not c1,szr_not c1];simp)
 simp only [szr_yes c1,show ¬(left-((a.Label.size:Nat):Int)-((mAnswer a.Answer:Nat):Int)<0) by omega,decide_false,Bool.false_eq_true,if_false,binP_lss,iteP_eq,atP_zero,rt_eq,scs_sc,scs_nil,flat_int,true_and,and_true]) k
theorem Qcb_n (a:GStored) (h:mStored a≤1048576) (k):call Qcb [.agg (eStored a)] k=k (eStored a):=call_of (fun k=>by
 unfold mStored at h
 simp [Qcb,Qca_n a.Answer (by omega)]) k
theorem Qjb_n (a:GStored) (h:mStored a≤1048576) (k):call Qjb [.agg (eStored a),.agg (eStored a)] k=k [.bool true]:=call_of (fun k=>by
 unfold mStored at h
 simp [Qjb,Qja_n a.Answer (by omega)]) k
def mStoredS (l:List GStored):Nat:=l.length+sumN mStored l
theorem decStoredS {p:PV} (h:Sh.has (.list [.int .i64,.str,.list [.int .i64,.int .i64,.int .i64,.int .i64,.int .i64,.int .i64,.int .i64,.int .i64,.list [.int .i64],.int .i64,.list [.int .i64],.int .i64,.int .i64,.list [.int .i64],.int .i64,.bool,.list [.int .i64,.int .i64]],.bool,.str,.int .i64,.int .i64,.list [.str],.int .i64,.list [.int .i64],.int .i64,.str,.int .i64,.int .i64,.list [.str],.str,.int .i64,.int .i64,.list [.str],.int .i64,.list [.int .i64],.int .i64,.list [.int .i64]]) p):∃l:List GStored,p=.list 23 (l.map eStored)∧(l.length≤maxLen∧∀y∈l,WStored y):=by
 obtain ⟨l,h1,h2,h3⟩:=has_map decStored 23 rfl h
 exact ⟨l,h1,h2,h3⟩
theorem Qaz_n (l:List GStored) (left:Int) (hw:(l.length≤maxLen∧∀y∈l,WStored y)) (h2:0≤left) (h3:left≤1048576) (k):call Qaz [.one (.list 23 (l.map eStored)),.one (I left)] k=k [I (szr (mStoredS l) left)]:=call_of (fun k=>by
 simp only [Qaz,lenP_eq,List.length_map,binP_sub,wr_left hw.1 h2 h3,binP_lss,iteP_eq,rt_eq,scs_sc,scs_nil,flat_int,true_and,and_true]
 unfold mStoredS
 by_cases c:(l.length:Int)≤left
 rotate_left
 ·simp [szr_over c,show left-(l.length:Int)<0 by omega]
 simp only [szr_add c,show ¬(left-(l.length:Int)<0) by omega,decide_false,Bool.false_eq_true,if_false]
 refine (lp_sz (neg:=k [I (-1)]) (fin:=fun t=>k [I t]) l eStored 23 mStored (left-(l.length:Int)) (I 0) (by omega) (by omega) rfl (fun i x hx hi t ht1 ht2 K=>?_) fun t K=>?_).trans ?_
 ·have e:=Qay_n x t (hw.2 x (List.mem_of_getElem? hx)) ht1 ht2
  simp [-getElem?_pos,Qaz_r0,hx,hi,e,wr_succ (show i<1000000000000000000 by omega)]
  by_cases hs:((mStored x:Nat):Int)≤t
  ·simp [szr_yes hs,hs,show ¬(t-((mStored x:Nat):Int)<0) by omega]
  ·simp [szr_not hs,hs]
 ·simp [Qaz_r0]
 ·by_cases hs:((sumN mStored l:Nat):Int)≤left-(l.length:Int)
  ·simp [szr_yes hs,hs]
  ·simp [szr_not hs,hs]) k
theorem Qcc_n (l:List GStored) (h:mStoredS l≤1048576) (k):call Qcc [.one (.list 23 (l.map eStored))] k=k [.list 23 (l.map eStored)]:=call_of (fun k=>by
 have hm:=h
 unfold mStoredS at hm
 simp [Qcc,show l.length<1073741824 by omega]
 refine lp_toS l eStored eStored [I 0,.str ⟨#[]⟩,.list 17 [],.bool false,.str ⟨#[]⟩,I 0,I 0,.list 1 [],I 0,.list 1 [],I 0,.str ⟨#[]⟩,I 0,I 0,.list 1 [],.str ⟨#[]⟩,I 0,I 0,.list 1 [],I 0,.list 1 [],I 0,.list 1 []] 23 23 (.list 23 []) rfl (fun i x hx hi K rows hr hz=>?_) fun K=>?_
 ·have hs:mStored x≤sumN mStored l:=sumN_mem (s:=mStored) (List.mem_of_getElem? hx)
  simp [-getElem?_pos,Qcc_r0,hx,hi,hr,hz,over,Qcb_n x (by omega),wr_succ (show i<1000000000000000000 by omega)]
 ·simp [Qcc_r0]) k
theorem Qjc_n (l:List GStored) (h:mStoredS l≤1048576) (k):call Qjc [.one (.list 23 (l.map eStored)),.one (.list 23 (l.map eStored))] k=k [.bool true]:=call_of (fun k=>by
 have hm:=h
 unfold mStoredS at hm
 simp [Qjc]
 refine lp_eqS l eStored 23 (.bool false) rfl (fun i x hx hi K=>?_) fun K=>?_
 ·have hs:mStored x≤sumN mStored l:=sumN_mem (s:=mStored) (List.mem_of_getElem? hx)
  simp [-getElem?_pos,Qjc_r0,hx,hi,Qjb_n x (by omega),wr_succ (show i<1000000000000000000 by omega)]
 ·simp [Qjc_r0]) k
structure GCache where
 Lst:List GStored
abbrev eCache (a:GCache):List PV:=[.list 23 (a.Lst.map eStored)]
def mCache (a:GCache):Nat:=mStoredS a.Lst
def WCache (a:GCache):Prop:=(a.Lst.length≤maxLen∧∀y∈a.Lst,WStored y)
theorem decCache (r:List PV) (hr:Sh.hasAll [.list [.int .i64,.str,.list [.int .i64,.int .i64,.int .i64,.int .i64,.int .i64,.int .i64,.int .i64,.int .i64,.list [.int .i64],.int .i64,.list [.int .i64],.int .i64,.int .i64,.list [.int .i64],.int .i64,.bool,.list [.int .i64,.int .i64]],.bool,.str,.int .i64,.int .i64,.list [.str],.int .i64,.list [.int .i64],.int .i64,.str,.int .i64,.int .i64,.list [.str],.str,.int .i64,.int .i64,.list [.str],.int .i64,.list [.int .i64],.int .i64,.list [.int .i64]]] r):∃a:GCache,r=eCache a∧WCache a:=by
 obtain ⟨p1,rfl,h1⟩:=all_one hr
 obtain ⟨n1,rfl,g1⟩:=decStoredS h1
 exact ⟨⟨n1⟩,rfl,g1⟩
theorem Qba_n (a:GCache) (left:Int) (hw:WCache a) (h2:0≤left) (h3:left≤1048576) (k):call Qba [.agg (eCache a),.one (I left)] k=k [I (szr (mCache a) left)]:=call_of (fun k=>by
 have g0:=hw
 unfold mCache
 simp only [Qba,un,cur0,Qaz_n a.Lst (left) g0 h2 h3,binP_lss,iteP_eq,atP_zero,rt_eq,scs_sc,scs_nil,flat_int,true_and,and_true]
 by_cases c0:((mStoredS a.Lst:Nat):Int)≤left
 rotate_left
 ·first | (simp [szr_not c0,szr_not c0];done) | (simp only [szr_not c0,szr_not c0];simp)
 simp only [szr_yes c0,show ¬(left-((mStoredS a.Lst:Nat):Int)<0) by omega,decide_false,Bool.false_eq_true,if_false,binP_lss,iteP_eq,atP_zero,rt_eq,scs_sc,scs_nil,flat_int,true_and,and_true]) k
theorem Qcd_n (a:GCache) (h:mCache a≤1048576) (k):call Qcd [.agg (eCache a)] k=k (eCache a):=call_of (fun k=>by
 unfold mCache at h
 simp [Qcd,Qcc_n a.Lst (by omega)]) k
theorem Qjd_n (a:GCache) (h:mCache a≤1048576) (k):call Qjd [.agg (eCache a),.agg (eCache a)] k=k [.bool true]:=call_of (fun k=>by
 unfold mCache at h
 simp [Qjd,Qjc_n a.Lst (by omega)]) k
structure GActor where
 Held:List Int
abbrev eActor (a:GActor):List PV:=[ints a.Held]
def mActor (a:GActor):Nat:=a.Held.length
def WActor (a:GActor):Prop:=a.Held.length≤maxLen
theorem decActor (r:List PV) (hr:Sh.hasAll [.list [.int .i64]] r):∃a:GActor,r=eActor a∧WActor a:=by
 obtain ⟨p1,rfl,h1⟩:=all_one hr
 obtain ⟨n1,rfl,g1⟩:=has_ints h1
 exact ⟨⟨n1⟩,rfl,g1⟩
theorem Qab_n (a:GActor) (left:Int) (hw:WActor a) (h2:0≤left) (h3:left≤1048576) (k):call Qab [.agg (eActor a),.one (I left)] k=k [I (szr (mActor a) left)]:=call_of (fun k=>by
 have g0:=hw
 unfold mActor
 simp only [Qab,un,cur0,Qaa_n a.Held (left) g0 h2 h3,binP_lss,iteP_eq,atP_zero,rt_eq,scs_sc,scs_nil,flat_int,true_and,and_true]
 by_cases c0:((a.Held.length:Nat):Int)≤left
 rotate_left
 ·first | (simp [szr_not c0,szr_not c0];done) | (simp only [szr_not c0,szr_not c0];simp)
 simp only [szr_yes c0,show ¬(left-((a.Held.length:Nat):Int)<0) by omega,decide_false,Bool.false_eq_true,if_false,binP_lss,iteP_eq,atP_zero,rt_eq,scs_sc,scs_nil,flat_int,true_and,and_true]) k
theorem Qbd_n (a:GActor) (h:mActor a≤1048576) (k):call Qbd [.agg (eActor a)] k=k (eActor a):=call_of (fun k=>by
 unfold mActor at h
 simp [Qbd,Qbc_n a.Held (by omega)]) k
theorem Qid_n (a:GActor) (h:mActor a≤1048576) (k):call Qid [.agg (eActor a),.agg (eActor a)] k=k [.bool true]:=call_of (fun k=>by
 unfold mActor at h
 simp [Qid,Qic_n a.Held (by omega)]) k
structure GSaid where
 Zone:GZone
 Held:List Int
abbrev eSaid (a:GSaid):List PV:=[.list 17 (a.Zone.Chain.map eSigned),.list 4 (a.Zone.Entries.map eEntry),ints a.Held]
def mSaid (a:GSaid):Nat:=mZone a.Zone+(a.Held.length)
def WSaid (a:GSaid):Prop:=WZone a.Zone∧a.Held.length≤maxLen
theorem decSaid (r:List PV) (hr:Sh.hasAll [.list [.int .i64,.int .i64,.int .i64,.int .i64,.int .i64,.int .i64,.int .i64,.int .i64,.list [.int .i64],.int .i64,.list [.int .i64],.int .i64,.int .i64,.list [.int .i64],.int .i64,.bool,.list [.int .i64,.int .i64]],.list [.str,.int .i64,.int .i64,.list [.str]],.list [.int .i64]] r):∃a:GSaid,r=eSaid a∧WSaid a:=by
 obtain ⟨p1,r1,rfl,h1,hr1⟩:=all_cons hr
 obtain ⟨n1,rfl,g1⟩:=decSignedS h1
 obtain ⟨p2,r2,rfl,h2,hr2⟩:=all_cons hr1
 obtain ⟨n2,rfl,g2⟩:=decEntryS h2
 obtain ⟨p3,rfl,h3⟩:=all_one hr2
 obtain ⟨n3,rfl,g3⟩:=has_ints h3
 exact ⟨⟨⟨n1,n2⟩,n3⟩,rfl,⟨⟨g1,g2⟩,g3⟩⟩
theorem Qan_n (a:GSaid) (left:Int) (hw:WSaid a) (h2:0≤left) (h3:left≤1048576) (k):call Qan [.agg (eSaid a),.one (I left)] k=k [I (szr (mSaid a) left)]:=call_of (fun k=>by
 obtain ⟨g0,g1⟩:=hw
 unfold mSaid
 simp only [Qan,un,cur0,Qal_n a.Zone (left) g0 h2 h3,binP_lss,iteP_eq,atP_zero,rt_eq,scs_sc,scs_nil,flat_int,true_and,and_true]
 by_cases c0:((mZone a.Zone:Nat):Int)≤left
 rotate_left
 ·first | (simp [szr_over c0,szr_not c0];done) | (simp only [szr_over c0,szr_not c0];simp)
 simp only [szr_yes c0,szr_add c0,show ¬(left-((mZone a.Zone:Nat):Int)<0) by omega,decide_false,Bool.false_eq_true,if_false,Qaa_n a.Held (left-((mZone a.Zone:Nat):Int)) g1 (by omega) (by omega),binP_lss,iteP_eq,atP_zero,rt_eq,scs_sc,scs_nil,flat_int,true_and,and_true]
 by_cases c1:((a.Held.length:Nat):Int)≤left-((mZone a.Zone:Nat):Int)
 rotate_left
 ·first | (simp [szr_not c1,szr_not c1];done) | (simp only [szr_not c1,szr_not c1];simp)
 simp only [szr_yes c1,show ¬(left-((mZone a.Zone:Nat):Int)-((a.Held.length:Nat):Int)<0) by omega,decide_false,Bool.false_eq_true,if_false,binP_lss,iteP_eq,atP_zero,rt_eq,scs_sc,scs_nil,flat_int,true_and,and_true]) k
theorem Qbq_n (a:GSaid) (h:mSaid a≤1048576) (k):call Qbq [.agg (eSaid a)] k=k (eSaid a):=call_of (fun k=>by
 unfold mSaid at h
 simp [Qbq,Qbo_n a.Zone (by omega),Qbc_n a.Held (by omega)]) k
theorem Qiq_n (a:GSaid) (h:mSaid a≤1048576) (k):call Qiq [.agg (eSaid a),.agg (eSaid a)] k=k [.bool true]:=call_of (fun k=>by
 unfold mSaid at h
 simp [Qiq,Qio_n a.Zone (by omega),Qic_n a.Held (by omega)]) k
def mActorS (l:List GActor):Nat:=l.length+sumN mActor l
theorem decActorS {p:PV} (h:Sh.has (.list [.list [.int .i64]]) p):∃l:List GActor,p=.list 1 (l.map eActor)∧(l.length≤maxLen∧∀y∈l,WActor y):=by
 obtain ⟨l,h1,h2,h3⟩:=has_map decActor 1 rfl h
 exact ⟨l,h1,h2,h3⟩
theorem Qac_n (l:List GActor) (left:Int) (hw:(l.length≤maxLen∧∀y∈l,WActor y)) (h2:0≤left) (h3:left≤1048576) (k):call Qac [.one (.list 1 (l.map eActor)),.one (I left)] k=k [I (szr (mActorS l) left)]:=call_of (fun k=>by
 simp only [Qac,lenP_eq,List.length_map,binP_sub,wr_left hw.1 h2 h3,binP_lss,iteP_eq,rt_eq,scs_sc,scs_nil,flat_int,true_and,and_true]
 unfold mActorS
 by_cases c:(l.length:Int)≤left
 rotate_left
 ·simp [szr_over c,show left-(l.length:Int)<0 by omega]
 simp only [szr_add c,show ¬(left-(l.length:Int)<0) by omega,decide_false,Bool.false_eq_true,if_false]
 refine (lp_sz (neg:=k [I (-1)]) (fin:=fun t=>k [I t]) l eActor 1 mActor (left-(l.length:Int)) (I 0) (by omega) (by omega) rfl (fun i x hx hi t ht1 ht2 K=>?_) fun t K=>?_).trans ?_
 ·have e:=Qab_n x t (hw.2 x (List.mem_of_getElem? hx)) ht1 ht2
  simp [-getElem?_pos,Qac_r0,hx,hi,e,wr_succ (show i<1000000000000000000 by omega)]
  by_cases hs:((mActor x:Nat):Int)≤t
  ·simp [szr_yes hs,hs,show ¬(t-((mActor x:Nat):Int)<0) by omega]
  ·simp [szr_not hs,hs]
 ·simp [Qac_r0]
 ·by_cases hs:((sumN mActor l:Nat):Int)≤left-(l.length:Int)
  ·simp [szr_yes hs,hs]
  ·simp [szr_not hs,hs]) k
theorem Qbe_n (l:List GActor) (h:mActorS l≤1048576) (k):call Qbe [.one (.list 1 (l.map eActor))] k=k [.list 1 (l.map eActor)]:=call_of (fun k=>by
 have hm:=h
 unfold mActorS at hm
 simp [Qbe,show l.length<1073741824 by omega]
 refine lp_toS l eActor eActor [.list 1 []] 1 1 (.list 1 []) rfl (fun i x hx hi K rows hr hz=>?_) fun K=>?_
 ·have hs:mActor x≤sumN mActor l:=sumN_mem (s:=mActor) (List.mem_of_getElem? hx)
  simp [-getElem?_pos,Qbe_r0,hx,hi,hr,hz,over,Qbd_n x (by omega),wr_succ (show i<1000000000000000000 by omega)]
 ·simp [Qbe_r0]) k
theorem Qie_n (l:List GActor) (h:mActorS l≤1048576) (k):call Qie [.one (.list 1 (l.map eActor)),.one (.list 1 (l.map eActor))] k=k [.bool true]:=call_of (fun k=>by
 have hm:=h
 unfold mActorS at hm
 simp [Qie]
 refine lp_eqS l eActor 1 (.bool false) rfl (fun i x hx hi K=>?_) fun K=>?_
 ·have hs:mActor x≤sumN mActor l:=sumN_mem (s:=mActor) (List.mem_of_getElem? hx)
  simp [-getElem?_pos,Qie_r0,hx,hi,Qid_n x (by omega),wr_succ (show i<1000000000000000000 by omega)]
 ·simp [Qie_r0]) k
def mSaidS (l:List GSaid):Nat:=l.length+sumN mSaid l
theorem decSaidS {p:PV} (h:Sh.has (.list [.list [.int .i64,.int .i64,.int .i64,.int .i64,.int .i64,.int .i64,.int .i64,.int .i64,.list [.int .i64],.int .i64,.list [.int .i64],.int .i64,.int .i64,.list [.int .i64],.int .i64,.bool,.list [.int .i64,.int .i64]],.list [.str,.int .i64,.int .i64,.list [.str]],.list [.int .i64]]) p):∃l:List GSaid,p=.list 3 (l.map eSaid)∧(l.length≤maxLen∧∀y∈l,WSaid y):=by
 obtain ⟨l,h1,h2,h3⟩:=has_map decSaid 3 rfl h
 exact ⟨l,h1,h2,h3⟩
theorem Qao_n (l:List GSaid) (left:Int) (hw:(l.length≤maxLen∧∀y∈l,WSaid y)) (h2:0≤left) (h3:left≤1048576) (k):call Qao [.one (.list 3 (l.map eSaid)),.one (I left)] k=k [I (szr (mSaidS l) left)]:=call_of (fun k=>by
 simp only [Qao,lenP_eq,List.length_map,binP_sub,wr_left hw.1 h2 h3,binP_lss,iteP_eq,rt_eq,scs_sc,scs_nil,flat_int,true_and,and_true]
 unfold mSaidS
 by_cases c:(l.length:Int)≤left
 rotate_left
 ·simp [szr_over c,show left-(l.length:Int)<0 by omega]
 simp only [szr_add c,show ¬(left-(l.length:Int)<0) by omega,decide_false,Bool.false_eq_true,if_false]
 refine (lp_sz (neg:=k [I (-1)]) (fin:=fun t=>k [I t]) l eSaid 3 mSaid (left-(l.length:Int)) (I 0) (by omega) (by omega) rfl (fun i x hx hi t ht1 ht2 K=>?_) fun t K=>?_).trans ?_
 ·have e:=Qan_n x t (hw.2 x (List.mem_of_getElem? hx)) ht1 ht2
  simp [-getElem?_pos,Qao_r0,hx,hi,e,wr_succ (show i<1000000000000000000 by omega)]
  by_cases hs:((mSaid x:Nat):Int)≤t
  ·simp [szr_yes hs,hs,show ¬(t-((mSaid x:Nat):Int)<0) by omega]
  ·simp [szr_not hs,hs]
 ·simp [Qao_r0]
 ·by_cases hs:((sumN mSaid l:Nat):Int)≤left-(l.length:Int)
  ·simp [szr_yes hs,hs]
  ·simp [szr_not hs,hs]) k
theorem Qbr_n (l:List GSaid) (h:mSaidS l≤1048576) (k):call Qbr [.one (.list 3 (l.map eSaid))] k=k [.list 3 (l.map eSaid)]:=call_of (fun k=>by
 have hm:=h
 unfold mSaidS at hm
 simp [Qbr,show l.length<1073741824 by omega]
 refine lp_toS l eSaid eSaid [.list 17 [],.list 4 [],.list 1 []] 3 3 (.list 3 []) rfl (fun i x hx hi K rows hr hz=>?_) fun K=>?_
 ·have hs:mSaid x≤sumN mSaid l:=sumN_mem (s:=mSaid) (List.mem_of_getElem? hx)
  simp [-getElem?_pos,Qbr_r0,hx,hi,hr,hz,over,Qbq_n x (by omega),wr_succ (show i<1000000000000000000 by omega)]
 ·simp [Qbr_r0]) k
theorem Qir_n (l:List GSaid) (h:mSaidS l≤1048576) (k):call Qir [.one (.list 3 (l.map eSaid)),.one (.list 3 (l.map eSaid))] k=k [.bool true]:=call_of (fun k=>by
 have hm:=h
 unfold mSaidS at hm
 simp [Qir]
 refine lp_eqS l eSaid 3 (.bool false) rfl (fun i x hx hi K=>?_) fun K=>?_
 ·have hs:mSaid x≤sumN mSaid l:=sumN_mem (s:=mSaid) (List.mem_of_getElem? hx)
  simp [-getElem?_pos,Qir_r0,hx,hi,Qiq_n x (by omega),wr_succ (show i<1000000000000000000 by omega)]
 ·simp [Qir_r0]) k
def mServerS (l:List GServer):Nat:=l.length+sumN mServer l
theorem decServerS {p:PV} (h:Sh.has (.list [.list [.list [.int .i64,.int .i64,.int .i64,.int .i64,.int .i64,.int .i64,.int .i64,.int .i64,.list [.int .i64],.int .i64,.list [.int .i64],.int .i64,.int .i64,.list [.int .i64],.int .i64,.bool,.list [.int .i64,.int .i64]],.list [.str,.int .i64,.int .i64,.list [.str]]],.int .i64]) p):∃l:List GServer,p=.list 2 (l.map eServer)∧(l.length≤maxLen∧∀y∈l,WServer y):=by
 obtain ⟨l,h1,h2,h3⟩:=has_map decServer 2 rfl h
 exact ⟨l,h1,h2,h3⟩
theorem Qaq_n (l:List GServer) (left:Int) (hw:(l.length≤maxLen∧∀y∈l,WServer y)) (h2:0≤left) (h3:left≤1048576) (k):call Qaq [.one (.list 2 (l.map eServer)),.one (I left)] k=k [I (szr (mServerS l) left)]:=call_of (fun k=>by
 simp only [Qaq,lenP_eq,List.length_map,binP_sub,wr_left hw.1 h2 h3,binP_lss,iteP_eq,rt_eq,scs_sc,scs_nil,flat_int,true_and,and_true]
 unfold mServerS
 by_cases c:(l.length:Int)≤left
 rotate_left
 ·simp [szr_over c,show left-(l.length:Int)<0 by omega]
 simp only [szr_add c,show ¬(left-(l.length:Int)<0) by omega,decide_false,Bool.false_eq_true,if_false]
 refine (lp_sz (neg:=k [I (-1)]) (fin:=fun t=>k [I t]) l eServer 2 mServer (left-(l.length:Int)) (I 0) (by omega) (by omega) rfl (fun i x hx hi t ht1 ht2 K=>?_) fun t K=>?_).trans ?_
 ·have e:=Qap_n x t (hw.2 x (List.mem_of_getElem? hx)) ht1 ht2
  simp [-getElem?_pos,Qaq_r0,hx,hi,e,wr_succ (show i<1000000000000000000 by omega)]
  by_cases hs:((mServer x:Nat):Int)≤t
  ·simp [szr_yes hs,hs,show ¬(t-((mServer x:Nat):Int)<0) by omega]
  ·simp [szr_not hs,hs]
 ·simp [Qaq_r0]
 ·by_cases hs:((sumN mServer l:Nat):Int)≤left-(l.length:Int)
  ·simp [szr_yes hs,hs]
  ·simp [szr_not hs,hs]) k
theorem Qbt_n (l:List GServer) (h:mServerS l≤1048576) (k):call Qbt [.one (.list 2 (l.map eServer))] k=k [.list 2 (l.map eServer)]:=call_of (fun k=>by
 have hm:=h
 unfold mServerS at hm
 simp [Qbt,show l.length<1073741824 by omega]
 refine lp_toS l eServer eServer [.list 2 [],I 0] 2 2 (.list 2 []) rfl (fun i x hx hi K rows hr hz=>?_) fun K=>?_
 ·have hs:mServer x≤sumN mServer l:=sumN_mem (s:=mServer) (List.mem_of_getElem? hx)
  simp [-getElem?_pos,Qbt_r0,hx,hi,hr,hz,over,Qbs_n x (by omega),wr_succ (show i<1000000000000000000 by omega)]
 ·simp [Qbt_r0]) k
theorem Qit_n (l:List GServer) (h:mServerS l≤1048576) (k):call Qit [.one (.list 2 (l.map eServer)),.one (.list 2 (l.map eServer))] k=k [.bool true]:=call_of (fun k=>by
 have hm:=h
 unfold mServerS at hm
 simp [Qit]
 refine lp_eqS l eServer 2 (.bool false) rfl (fun i x hx hi K=>?_) fun K=>?_
 ·have hs:mServer x≤sumN mServer l:=sumN_mem (s:=mServer) (List.mem_of_getElem? hx)
  simp [-getElem?_pos,Qit_r0,hx,hi,Qis_n x (by omega),wr_succ (show i<1000000000000000000 by omega)]
 ·simp [Qit_r0]) k
structure GWorld where
 Now:Int
 Actors:List GActor
 Zones:List GZone
 Said:List GSaid
 Servers:List GServer
 Known:GKnown
 Cache:GCache
abbrev eWorld (a:GWorld):List PV:=[I a.Now,.list 1 (a.Actors.map eActor),.list 2 (a.Zones.map eZone),.list 3 (a.Said.map eSaid),.list 2 (a.Servers.map eServer),.list 1 (a.Known.Chains.map (fun l:List GSigned=>[.list 17 (l.map eSigned)])),.list 51 (a.Known.Forks.map eFork),.list 23 (a.Cache.Lst.map eStored)]
def mWorld (a:GWorld):Nat:=mActorS a.Actors+(mZoneS a.Zones+(mSaidS a.Said+(mServerS a.Servers+(mKnown a.Known+(mCache a.Cache)))))
def WWorld (a:GWorld):Prop:=(a.Actors.length≤maxLen∧∀y∈a.Actors,WActor y)∧(a.Zones.length≤maxLen∧∀y∈a.Zones,WZone y)∧(a.Said.length≤maxLen∧∀y∈a.Said,WSaid y)∧(a.Servers.length≤maxLen∧∀y∈a.Servers,WServer y)∧WKnown a.Known∧WCache a.Cache
theorem decWorld (r:List PV) (hr:Sh.hasAll [.int .i64,.list [.list [.int .i64]],.list [.list [.int .i64,.int .i64,.int .i64,.int .i64,.int .i64,.int .i64,.int .i64,.int .i64,.list [.int .i64],.int .i64,.list [.int .i64],.int .i64,.int .i64,.list [.int .i64],.int .i64,.bool,.list [.int .i64,.int .i64]],.list [.str,.int .i64,.int .i64,.list [.str]]],.list [.list [.int .i64,.int .i64,.int .i64,.int .i64,.int .i64,.int .i64,.int .i64,.int .i64,.list [.int .i64],.int .i64,.list [.int .i64],.int .i64,.int .i64,.list [.int .i64],.int .i64,.bool,.list [.int .i64,.int .i64]],.list [.str,.int .i64,.int .i64,.list [.str]],.list [.int .i64]],.list [.list [.list [.int .i64,.int .i64,.int .i64,.int .i64,.int .i64,.int .i64,.int .i64,.int .i64,.list [.int .i64],.int .i64,.list [.int .i64],.int .i64,.int .i64,.list [.int .i64],.int .i64,.bool,.list [.int .i64,.int .i64]],.list [.str,.int .i64,.int .i64,.list [.str]]],.int .i64],.list [.list [.int .i64,.int .i64,.int .i64,.int .i64,.int .i64,.int .i64,.int .i64,.int .i64,.list [.int .i64],.int .i64,.list [.int .i64],.int .i64,.int .i64,.list [.int .i64],.int .i64,.bool,.list [.int .i64,.int .i64]]],.list [.int .i64,.int .i64,.int .i64,.int .i64,.int .i64,.int .i64,.int .i64,.int .i64,.list [.int .i64],.int .i64,.list [.int .i64],.int .i64,.int .i64,.list [.int .i64],.int .i64,.bool,.list [.int .i64,.int .i64],.int .i64,.int .i64,.int .i64,.int .i64,.int .i64,.int .i64,.int .i64,.int .i64,.list [.int .i64],.int .i64,.list [.int .i64],.int .i64,.int .i64,.list [.int .i64],.int .i64,.bool,.list [.int .i64,.int .i64],.int .i64,.int .i64,.int .i64,.int .i64,.int .i64,.int .i64,.int .i64,.int .i64,.list [.int .i64],.int .i64,.list [.int .i64],.int .i64,.int .i64,.list [.int .i64],.int .i64,.bool,.list [.int .i64,.int .i64]],.list [.int .i64,.str,.list [.int .i64,.int .i64,.int .i64,.int .i64,.int .i64,.int .i64,.int .i64,.int .i64,.list [.int .i64],.int .i64,.list [.int .i64],.int .i64,.int .i64,.list [.int .i64],.int .i64,.bool,.list [.int .i64,.int .i64]],.bool,.str,.int .i64,.int .i64,.list [.str],.int .i64,.list [.int .i64],.int .i64,.str,.int .i64,.int .i64,.list [.str],.str,.int .i64,.int .i64,.list [.str],.int .i64,.list [.int .i64],.int .i64,.list [.int .i64]]] r):∃a:GWorld,r=eWorld a∧WWorld a:=by
 obtain ⟨p1,r1,rfl,h1,hr1⟩:=all_cons hr
 obtain ⟨n1,rfl⟩:=has_int h1
 obtain ⟨p2,r2,rfl,h2,hr2⟩:=all_cons hr1
 obtain ⟨n2,rfl,g2⟩:=decActorS h2
 obtain ⟨p3,r3,rfl,h3,hr3⟩:=all_cons hr2
 obtain ⟨n3,rfl,g3⟩:=decZoneS h3
 obtain ⟨p4,r4,rfl,h4,hr4⟩:=all_cons hr3
 obtain ⟨n4,rfl,g4⟩:=decSaidS h4
 obtain ⟨p5,r5,rfl,h5,hr5⟩:=all_cons hr4
 obtain ⟨n5,rfl,g5⟩:=decServerS h5
 obtain ⟨p6,r6,rfl,h6,hr6⟩:=all_cons hr5
 obtain ⟨n6,rfl,g6⟩:=decSignedSS h6
 obtain ⟨p7,r7,rfl,h7,hr7⟩:=all_cons hr6
 obtain ⟨n7,rfl,g7⟩:=decForkS h7
 obtain ⟨p8,rfl,h8⟩:=all_one hr7
 obtain ⟨n8,rfl,g8⟩:=decStoredS h8
 exact ⟨⟨n1,n2,n3,n4,n5,⟨n6,n7⟩,⟨n8⟩⟩,rfl,⟨g2,g3,g4,g5,⟨g6,g7⟩,g8⟩⟩
theorem Qbb_n (a:GWorld) (left:Int) (hw:WWorld a) (h2:0≤left) (h3:left≤1048576) (k):call Qbb [.agg (eWorld a),.one (I left)] k=k [I (szr (mWorld a) left)]:=call_of (fun k=>by
 obtain ⟨g0,g1,g2,g3,g4,g5⟩:=hw
 unfold mWorld
 simp only [Qbb,un,cur0,Qac_n a.Actors (left) g0 h2 h3,binP_lss,iteP_eq,atP_zero,rt_eq,scs_sc,scs_nil,flat_int,true_and,and_true]
 by_cases c0:((mActorS a.Actors:Nat):Int)≤left
 rotate_left
 ·first | (simp [szr_over c0,szr_not c0];done) | (simp only [szr_over c0,szr_not c0];simp)
 simp only [szr_yes c0,szr_add c0,show ¬(left-((mActorS a.Actors:Nat):Int)<0) by omega,decide_false,Bool.false_eq_true,if_false,Qam_n a.Zones (left-((mActorS a.Actors:Nat):Int)) g1 (by omega) (by omega),binP_lss,iteP_eq,atP_zero,rt_eq,scs_sc,scs_nil,flat_int,true_and,and_true]
 by_cases c1:((mZoneS a.Zones:Nat):Int)≤left-((mActorS a.Actors:Nat):Int)
 rotate_left
 ·first | (simp [szr_over c1,szr_not c1];done) | (simp only [szr_over c1,szr_not c1];simp)
 simp only [szr_yes c1,szr_add c1,show ¬(left-((mActorS a.Actors:Nat):Int)-((mZoneS a.Zones:Nat):Int)<0) by omega,decide_false,Bool.false_eq_true,if_false,Qao_n a.Said (left-((mActorS a.Actors:Nat):Int)-((mZoneS a.Zones:Nat):Int)) g2 (by omega) (by omega),binP_lss,iteP_eq,atP_zero,rt_eq,scs_sc,scs_nil,flat_int,true_and,and_true]
 by_cases c2:((mSaidS a.Said:Nat):Int)≤left-((mActorS a.Actors:Nat):Int)-((mZoneS a.Zones:Nat):Int)
 rotate_left
 ·first | (simp [szr_over c2,szr_not c2];done) | (simp only [szr_over c2,szr_not c2];simp)
 simp only [szr_yes c2,szr_add c2,show ¬(left-((mActorS a.Actors:Nat):Int)-((mZoneS a.Zones:Nat):Int)-((mSaidS a.Said:Nat):Int)<0) by omega,decide_false,Bool.false_eq_true,if_false,Qaq_n a.Servers (left-((mActorS a.Actors:Nat):Int)-((mZoneS a.Zones:Nat):Int)-((mSaidS a.Said:Nat):Int)) g3 (by omega) (by omega),binP_lss,iteP_eq,atP_zero,rt_eq,scs_sc,scs_nil,flat_int,true_and,and_true]
 by_cases c3:((mServerS a.Servers:Nat):Int)≤left-((mActorS a.Actors:Nat):Int)-((mZoneS a.Zones:Nat):Int)-((mSaidS a.Said:Nat):Int)
 rotate_left
 ·first | (simp [szr_over c3,szr_not c3];done) | (simp only [szr_over c3,szr_not c3];simp)
 simp only [szr_yes c3,szr_add c3,show ¬(left-((mActorS a.Actors:Nat):Int)-((mZoneS a.Zones:Nat):Int)-((mSaidS a.Said:Nat):Int)-((mServerS a.Servers:Nat):Int)<0) by omega,decide_false,Bool.false_eq_true,if_false,Qau_n a.Known (left-((mActorS a.Actors:Nat):Int)-((mZoneS a.Zones:Nat):Int)-((mSaidS a.Said:Nat):Int)-((mServerS a.Servers:Nat):Int)) g4 (by omega) (by omega),binP_lss,iteP_eq,atP_zero,rt_eq,scs_sc,scs_nil,flat_int,true_and,and_true]
 by_cases c4:((mKnown a.Known:Nat):Int)≤left-((mActorS a.Actors:Nat):Int)-((mZoneS a.Zones:Nat):Int)-((mSaidS a.Said:Nat):Int)-((mServerS a.Servers:Nat):Int)
 rotate_left
 ·first | (simp [szr_over c4,szr_not c4];done) | (simp only [szr_over c4,szr_not c4];simp)
 simp only [szr_yes c4,szr_add c4,show ¬(left-((mActorS a.Actors:Nat):Int)-((mZoneS a.Zones:Nat):Int)-((mSaidS a.Said:Nat):Int)-((mServerS a.Servers:Nat):Int)-((mKnown a.Known:Nat):Int)<0) by omega,decide_false,Bool.false_eq_true,if_false,Qba_n a.Cache (left-((mActorS a.Actors:Nat):Int)-((mZoneS a.Zones:Nat):Int)-((mSaidS a.Said:Nat):Int)-((mServerS a.Servers:Nat):Int)-((mKnown a.Known:Nat):Int)) g5 (by omega) (by omega),binP_lss,iteP_eq,atP_zero,rt_eq,scs_sc,scs_nil,flat_int,true_and,and_true]
 by_cases c5:((mCache a.Cache:Nat):Int)≤left-((mActorS a.Actors:Nat):Int)-((mZoneS a.Zones:Nat):Int)-((mSaidS a.Said:Nat):Int)-((mServerS a.Servers:Nat):Int)-((mKnown a.Known:Nat):Int)
 rotate_left
 ·first | (simp [szr_not c5,szr_not c5];done) | (simp only [szr_not c5,szr_not c5];simp)
 simp only [szr_yes c5,show ¬(left-((mActorS a.Actors:Nat):Int)-((mZoneS a.Zones:Nat):Int)-((mSaidS a.Said:Nat):Int)-((mServerS a.Servers:Nat):Int)-((mKnown a.Known:Nat):Int)-((mCache a.Cache:Nat):Int)<0) by omega,decide_false,Bool.false_eq_true,if_false,binP_lss,iteP_eq,atP_zero,rt_eq,scs_sc,scs_nil,flat_int,true_and,and_true]) k
theorem Qce_n (a:GWorld) (h:mWorld a≤1048576) (k):call Qce [.agg (eWorld a)] k=k (eWorld a):=call_of (fun k=>by
 unfold mWorld at h
 simp [Qce,Qbe_n a.Actors (by omega),Qbp_n a.Zones (by omega),Qbr_n a.Said (by omega),Qbt_n a.Servers (by omega),Qbx_n a.Known (by omega),Qcd_n a.Cache (by omega)]) k
theorem Qje_n (a:GWorld) (h:mWorld a≤1048576) (k):call Qje [.agg (eWorld a),.agg (eWorld a)] k=k [.bool true]:=call_of (fun k=>by
 unfold mWorld at h
 simp [Qje,Qie_n a.Actors (by omega),Qip_n a.Zones (by omega),Qir_n a.Said (by omega),Qit_n a.Servers (by omega),Qix_n a.Known (by omega),Qjd_n a.Cache (by omega)]) k
end Go.Ev
set_option linter.unusedVariables false
set_option linter.unusedSimpArgs false
set_option maxRecDepth 10000
set_option maxHeartbeats 1000000
namespace Go.Ev
open Go.Proofs
theorem mk_sc {ρ:List (Nat×MM)} {off t:Nat} {ss:List (Option Eff×SV)} {r r1 r':List PV} {p:PV} {k k':Int} (h1:r[off]? = some p) (h2:p.flat=true) (h3:r.set off (cellK mtx k t)=r1) (h4:IntKind.i64.wrap (k+1)=k+1) (h:mkRow ρ mtx ss r1 (k+1)=some (r',k')):mkRow ρ mtx ((some (.store off t),.kk)::(none,.kinc)::ss) r k=some (r',k'):=by
 subst h3
 simp only [mkRow,regE,effS,h1,h2,if_true,h4]
 exact h
theorem mk_ca {ρ:List (Nat×MM)} {off f:Nat} {m:PV→Int→Option (PV×Int)} {ss:List (Option Eff×SV)} {r r1 r':List PV} {p p':PV} {k k1 k':Int} (h1:r[off]? = some p) (h2:lk ρ f=some (.sl m)) (h3:m p k=some (p',k1)) (h4:r.set off p'=r1) (h5:rg64 k1=true) (h:mkRow ρ mtx ss r1 k1=some (r',k')):mkRow ρ mtx ((some (.call off none f),.res)::ss) r k=some (r',k'):=by
 subst h4
 simp only [mkRow,regE,effS,h1,h2,h3,h5,if_true]
 exact h
theorem mk_ct {ρ:List (Nat×MM)} {off n f:Nat} {m:List PV→Int→Option (List PV×Int)} {ss:List (Option Eff×SV)} {r r1 r' q q':List PV} {k k1 k':Int} (h1:off+n≤r.length) (h2:lk ρ f=some (.st m)) (hq:(r.drop off).take n=q) (h3:m q k=some (q',k1)) (h4:r.take off++q'++r.drop (off+n)=r1) (h5:rg64 k1=true) (h:mkRow ρ mtx ss r1 k1=some (r',k')):mkRow ρ mtx ((some (.call off (some n) f),.res)::ss) r k=some (r',k'):=by
 subst h4;subst hq
 simp only [mkRow,regE,effS,h1,h2,h3,h5,if_true]
 exact h
theorem rg_of {k:Int} (h1:0≤k) (h2:k≤1000000000000000):rg64 k=true:=by simp only [rg64,Bool.and_eq_true,decide_eq_true_eq];omega
theorem wr1 {k:Int} (h1:0≤k) (h2:k≤1000000000000000):IntKind.i64.wrap (k+1)=k+1:=wr_eq (by omega) (by omega)
theorem elemP_row {sz:Nat} {rows:List (List PV)} {i:Nat} {r:List PV} (h:rows[i]? = some r) (k:List PV→Prop):elemP sz (.list sz rows) (I i) k=k r:=by
 simp [elemP,h]
theorem rows_mark {α:Type} (e:α→List PV) (c:α→Nat) {ρ:List (Nat×MM)} {ss:List (Option Eff×SV)} {R:(List PV→Prop)→List PV→Prop} (sz:Nat):∀(l:List α)
 (hel:∀x∈l,∀k,0≤k→k+40*(1+(c x:Int))≤1000000000000000→∃r' k',mkRow ρ mtx ss (e x) k=some (r',k')∧k≤k'∧k'≤k+40*(1+(c x:Int))∧∀(rows:List (List PV)) (i:Nat) K z,rows[i]? = some r'→i<rows.length→rows.length≤1000000000000000→(R K [.list sz rows,I k,z,I i]↔K [.list sz rows,I k',z,I ((i:Int)+1)]))
 (k:Int),0≤k→k+40*((l.length:Int)+(sumN c l:Int))≤1000000000000000→∃rows' k',mkRows ρ mtx ss (l.map e) k=some (rows',k')∧rows'.length=l.length∧k≤k'∧k'≤k+40*((l.length:Int)+(sumN c l:Int)) ∧
  ∀(pre:List (List PV)) (z:PV) (fin:Prop),(pre++rows').length≤1000000000000000→(∀K,R K [.list sz (pre++rows'),I k',z,I (pre++rows').length]↔fin)→(lp R [.list sz (pre++rows'),I k,z,I pre.length]↔fin)
 | [],hel,k,h0,hb=>⟨[],k,rfl,rfl,Int.le_refl _,by simp [sumN],fun pre z fin hl hf=>itP_mono_end fun K=>by have:=hf K;rwa [List.append_nil] at this ⊢⟩
 | x::l,hel,k,h0,hb=>by
  have hs:sumN c (x::l)=c x+sumN c l:=rfl
  rw [hs] at hb ⊢
  simp only [List.length_cons] at hb ⊢
  obtain ⟨r',k1,q1,q2,q3,q4⟩:=hel x (by simp) k h0 (by omega)
  obtain ⟨rows',k',p1,p2,p3,p4,p5⟩:=rows_mark e c sz l (fun y hy=>hel y (by simp [hy])) k1 (by omega) (by omega)
  refine ⟨r'::rows',k',by simp only [List.map_cons,mkRows,q1,p1],by simp [p2],by omega,by omega,fun pre z fin hl hf=>?_⟩
  have hx:(pre++r'::rows')[pre.length]? = some r':=by simp
  have hlt:pre.length<(pre++r'::rows').length:=by simp
  rw [lp_step fun K=>q4 (pre++r'::rows') pre.length K z hx hlt hl]
  have e1:pre++r'::rows'=(pre++[r'])++rows':=by simp
  have e2:((pre.length:Int)+1)=(((pre++[r']).length:Nat):Int):=by simp
  rw [e1,e2]
  exact p5 (pre++[r']) z fin (by rw [←e1];exact hl) (by rw [←e1];exact hf)
theorem rows_mark0 {α:Type} (e:α→List PV) (c:α→Nat) {ρ:List (Nat×MM)} {ss:List (Option Eff×SV)}:∀(l:List α)
 (hel:∀x∈l,∀k,0≤k→k+40*(1+(c x:Int))≤1000000000000000→∃r' k',mkRow ρ mtx ss (e x) k=some (r',k')∧k≤k'∧k'≤k+40*(1+(c x:Int)))
 (k:Int),0≤k→k+40*((l.length:Int)+(sumN c l:Int))≤1000000000000000→∃rows' k',mkRows ρ mtx ss (l.map e) k=some (rows',k')∧k≤k'∧k'≤k+40*((l.length:Int)+(sumN c l:Int))
 | [],hel,k,h0,hb=>⟨[],k,rfl,Int.le_refl _,by simp [sumN]⟩
 | x::l,hel,k,h0,hb=>by
  have hs:sumN c (x::l)=c x+sumN c l:=rfl
  rw [hs] at hb ⊢
  simp only [List.length_cons] at hb ⊢
  obtain ⟨r',k1,q1,q2,q3⟩:=hel x (by simp) k h0 (by omega)
  obtain ⟨rows',k',p1,p3,p4⟩:=rows_mark0 e c l (fun y hy=>hel y (by simp [hy])) k1 (by omega) (by omega)
  exact ⟨r'::rows',k',by simp only [List.map_cons,mkRows,q1,p1],by omega,by omega⟩
theorem mkS_list {ρ:List (Nat×MM)} {sz:Nat} {ss:List (Option Eff×SV)} {rows rows':List (List PV)} {k k':Int} (h1:rows.length<1000000000000000000) (h2:mkRows ρ mtx ss rows k=some (rows',k')):mkS ρ mtx sz ss (.list sz rows) k=some (.list sz rows',k'):=by
 simp only [mkS,true_and,h1,if_true,h2]
theorem mkT_of {ρ:List (Nat×MM)} {esz:Nat} {ss:List (Option Eff×SV)} {ps ps':List PV} {k k':Int} (h1:ps.length=esz) (h2:mkRow ρ mtx ss ps k=some (ps',k')):mkT ρ mtx esz ss ps k=some (ps',k'):=by
 simp only [mkT,h1,if_true,h2]
theorem sumN_z {α:Type} (l:List α):sumN (fun _:α=>0) l=0:=by
 induction l with
 | nil=>rfl
 | cons x l ih=>show 0+sumN _ l=0;rw [ih]
theorem sumN_eq {α:Type} {f g:α→Nat} (h:∀x,f x=g x) (l:List α):sumN f l=sumN g l:=by rw [show f=g from funext h]
theorem marks_IntS (l:List Int) (k:Int) (h0:0≤k) (hb:k+40*((l.length:Nat):Int)≤1000000000000000):∃p k',mk_IntS (ints l) k=some (p,k')∧k≤k'∧k'≤k+40*((l.length:Nat):Int)∧∀K,call Qjf [.one p,.one (I k)] K=K [I k']:=by
 have hm:(l.length:Nat)=l.length+sumN (fun x:Int=>0) l:=by rw [sumN_z];omega
 rw [hm] at hb ⊢
 have hrow:∀(A:Prop) (B:PV→PV→PV→PV→Prop),∀x∈l,∀k,0≤k→k+40*(1+((fun x:Int=>0) x:Int))≤1000000000000000→∃r' k',mkRow mk_IntS_r mtx mk_IntS_s (rI x) k=some (r',k')∧k≤k'∧k'≤k+40*(1+((fun x:Int=>0) x:Int))∧∀(rows:List (List PV)) (i:Nat) K z,rows[i]? = some r'→i<rows.length→rows.length≤1000000000000000→((fun L w=>Qjf_r0 w L A B) K [.list 1 rows,I k,z,I i]↔K [.list 1 rows,I k',z,I ((i:Int)+1)]):=by
  intro A B x hx k h0 hb
  have hle:(l.length:Int)≤1000000000000000:=by omega
  clear hle
  try dsimp only at hb ⊢
  refine ⟨[I (k)],k+1,mk_sc rfl rfl rfl (wr1 (by omega) (by omega)) (rfl),by omega,by omega,fun rows i K z hr hi hn=>?_⟩
  have f0:=wr1 (k:=k) (by omega) (by omega)
  have hlt:(i:Int)<(rows.length:Int):=by omega
  simp only [Qjf_r0,un,cur0,lenP_eq,binP_lss,hlt,decide_true,decide_false,iteP_eq,if_true,elemP_row hr,atP_zero,atP_succ,binP_neq,bne_self_eq_false,Bool.false_eq_true,if_false,binP_add,binP_sneq,Bool.not_true,binP_rem,binP_eql,boolP_neq,f0,wr_succ (show i<1000000000000000000 by omega),true_and,ne_eq,not_false_eq_true]
 obtain ⟨rows',k',p1,p2,p3,p4,p5⟩:=rows_mark rI (fun x:Int=>0) 1 l (hrow True fun _ _ _ _=>True) k h0 (by omega)
 have hle:(l.length:Int)≤1000000000000000:=by omega
 refine ⟨.list 1 rows',k',?_,p3,p4,fun K=>?_⟩
 ·exact mkS_list (by rw [List.length_map];omega) p1
 ·refine (call_of (fun K=>?_) K)
  obtain ⟨rows2,k2,r1,r2,r3,r4,r5⟩:=rows_mark rI (fun x:Int=>0) 1 l (hrow (rt [.sc] [(I (-1))] K) fun q6 q7 q8 q9=>rt [.sc] [q7] K) k h0 (by omega)
  have hs:=p1.symm.trans r1
  injection hs with hs;injection hs with hs1 hs2
  subst hs1;subst hs2
  have:=r5 [] (I 0) (K [I k']) (by rw [List.nil_append,p2];omega) fun K2=>by
   simp only [Qjf_r0,un,cur0,lenP_eq,binP_lss,Int.lt_irrefl,decide_false,iteP_eq,Bool.false_eq_true,if_false,List.nil_append,rt_eq,scs_sc,scs_nil,flat_int,true_and]
  exact this
theorem marks_ActorS (l:List GActor) (k:Int) (h0:0≤k) (hb:k+40*((mActorS l:Nat):Int)≤1000000000000000):∃p k',mk_ActorS (.list 1 (l.map eActor)) k=some (p,k')∧k≤k'∧k'≤k+40*((mActorS l:Nat):Int)∧∀K,call Qjg [.one p,.one (I k)] K=K [I k']:=by
 have hm:mActorS l=l.length+sumN (fun x:GActor=>mActor x) l:=rfl
 rw [hm] at hb ⊢
 have hrow:∀(A:Prop) (B:PV→PV→PV→PV→Prop),∀x∈l,∀k,0≤k→k+40*(1+((fun x:GActor=>mActor x) x:Int))≤1000000000000000→∃r' k',mkRow mk_ActorS_r mtx mk_ActorS_s (eActor x) k=some (r',k')∧k≤k'∧k'≤k+40*(1+((fun x:GActor=>mActor x) x:Int))∧∀(rows:List (List PV)) (i:Nat) K z,rows[i]? = some r'→i<rows.length→rows.length≤1000000000000000→((fun L w=>Qjg_r0 w L A B) K [.list 1 rows,I k,z,I i]↔K [.list 1 rows,I k',z,I ((i:Int)+1)]):=by
  intro A B x hx k h0 hb
  have hle:(l.length:Int)≤1000000000000000:=by omega
  clear hle
  try dsimp only at hb ⊢
  simp only [mActor] at hb ⊢
  obtain ⟨p1,k1,e1,l1,u1,g1⟩:=marks_IntS x.Held (k) (by omega) (by omega)
  refine ⟨[p1],k1,mk_ca rfl rfl e1 rfl (rg_of (by omega) (by omega)) (rfl),by omega,by omega,fun rows i K z hr hi hn=>?_⟩
  have f1:¬(k1<0):=by omega
  have hlt:(i:Int)<(rows.length:Int):=by omega
  simp only [Qjg_r0,un,cur0,lenP_eq,binP_lss,hlt,decide_true,decide_false,iteP_eq,if_true,elemP_row hr,atP_zero,atP_succ,binP_neq,bne_self_eq_false,Bool.false_eq_true,if_false,binP_add,binP_sneq,Bool.not_true,binP_rem,binP_eql,boolP_neq,g1,f1,wr_succ (show i<1000000000000000000 by omega),true_and,ne_eq,not_false_eq_true]
 obtain ⟨rows',k',p1,p2,p3,p4,p5⟩:=rows_mark eActor (fun x:GActor=>mActor x) 1 l (hrow True fun _ _ _ _=>True) k h0 (by omega)
 have hle:(l.length:Int)≤1000000000000000:=by omega
 refine ⟨.list 1 rows',k',?_,p3,p4,fun K=>?_⟩
 ·exact mkS_list (by rw [List.length_map];omega) p1
 ·refine (call_of (fun K=>?_) K)
  obtain ⟨rows2,k2,r1,r2,r3,r4,r5⟩:=rows_mark eActor (fun x:GActor=>mActor x) 1 l (hrow (rt [.sc] [(I (-1))] K) fun q6 q7 q8 q9=>rt [.sc] [q7] K) k h0 (by omega)
  have hs:=p1.symm.trans r1
  injection hs with hs;injection hs with hs1 hs2
  subst hs1;subst hs2
  have:=r5 [] (I 0) (K [I k']) (by rw [List.nil_append,p2];omega) fun K2=>by
   simp only [Qjg_r0,un,cur0,lenP_eq,binP_lss,Int.lt_irrefl,decide_false,iteP_eq,Bool.false_eq_true,if_false,List.nil_append,rt_eq,scs_sc,scs_nil,flat_int,true_and]
  exact this
theorem marks_SigS (l:List GSig) (k:Int) (h0:0≤k) (hb:k+40*((l.length:Nat):Int)≤1000000000000000):∃p k',mk_SigS (.list 2 (l.map eSig)) k=some (p,k')∧k≤k'∧k'≤k+40*((l.length:Nat):Int)∧∀K,call Qjh [.one p,.one (I k)] K=K [I k']:=by
 have hm:(l.length:Nat)=l.length+sumN (fun x:GSig=>0) l:=by rw [sumN_z];omega
 rw [hm] at hb ⊢
 have hrow:∀(A:Prop) (B:PV→PV→PV→PV→Prop),∀x∈l,∀k,0≤k→k+40*(1+((fun x:GSig=>0) x:Int))≤1000000000000000→∃r' k',mkRow mk_SigS_r mtx mk_SigS_s (eSig x) k=some (r',k')∧k≤k'∧k'≤k+40*(1+((fun x:GSig=>0) x:Int))∧∀(rows:List (List PV)) (i:Nat) K z,rows[i]? = some r'→i<rows.length→rows.length≤1000000000000000→((fun L w=>Qjh_r0 w L A B) K [.list 2 rows,I k,z,I i]↔K [.list 2 rows,I k',z,I ((i:Int)+1)]):=by
  intro A B x hx k h0 hb
  have hle:(l.length:Int)≤1000000000000000:=by omega
  clear hle
  try dsimp only at hb ⊢
  refine ⟨[I (k),I (k+1)],k+1+1,mk_sc rfl rfl rfl (wr1 (by omega) (by omega)) (mk_sc rfl rfl rfl (wr1 (by omega) (by omega)) (rfl)),by omega,by omega,fun rows i K z hr hi hn=>?_⟩
  have f0:=wr1 (k:=k) (by omega) (by omega)
  have f1:=wr1 (k:=k+1) (by omega) (by omega)
  have hlt:(i:Int)<(rows.length:Int):=by omega
  simp only [Qjh_r0,un,cur0,lenP_eq,binP_lss,hlt,decide_true,decide_false,iteP_eq,if_true,elemP_row hr,atP_zero,atP_succ,binP_neq,bne_self_eq_false,Bool.false_eq_true,if_false,binP_add,binP_sneq,Bool.not_true,binP_rem,binP_eql,boolP_neq,f0,f1,wr_succ (show i<1000000000000000000 by omega),true_and,ne_eq,not_false_eq_true]
 obtain ⟨rows',k',p1,p2,p3,p4,p5⟩:=rows_mark eSig (fun x:GSig=>0) 2 l (hrow True fun _ _ _ _=>True) k h0 (by omega)
 have hle:(l.length:Int)≤1000000000000000:=by omega
 refine ⟨.list 2 rows',k',?_,p3,p4,fun K=>?_⟩
 ·exact mkS_list (by rw [List.length_map];omega) p1
 ·refine (call_of (fun K=>?_) K)
  obtain ⟨rows2,k2,r1,r2,r3,r4,r5⟩:=rows_mark eSig (fun x:GSig=>0) 2 l (hrow (rt [.sc] [(I (-1))] K) fun q6 q7 q8 q9=>rt [.sc] [q7] K) k h0 (by omega)
  have hs:=p1.symm.trans r1
  injection hs with hs;injection hs with hs1 hs2
  subst hs1;subst hs2
  have:=r5 [] (I 0) (K [I k']) (by rw [List.nil_append,p2];omega) fun K2=>by
   simp only [Qjh_r0,un,cur0,lenP_eq,binP_lss,Int.lt_irrefl,decide_false,iteP_eq,Bool.false_eq_true,if_false,List.nil_append,rt_eq,scs_sc,scs_nil,flat_int,true_and]
  exact this
theorem marks_SignedS (l:List GSigned) (k:Int) (h0:0≤k) (hb:k+40*((mSignedS l:Nat):Int)≤1000000000000000):∃p k',mk_SignedS (.list 17 (l.map eSigned)) k=some (p,k')∧k≤k'∧k'≤k+40*((mSignedS l:Nat):Int)∧∀K,call Qji [.one p,.one (I k)] K=K [I k']:=by
 have hm:mSignedS l=l.length+sumN (fun x:GSigned=>mSigned x) l:=rfl
 rw [hm] at hb ⊢
 have hrow:∀(A:Prop) (B:PV→PV→PV→PV→Prop),∀x∈l,∀k,0≤k→k+40*(1+((fun x:GSigned=>mSigned x) x:Int))≤1000000000000000→∃r' k',mkRow mk_SignedS_r mtx mk_SignedS_s (eSigned x) k=some (r',k')∧k≤k'∧k'≤k+40*(1+((fun x:GSigned=>mSigned x) x:Int))∧∀(rows:List (List PV)) (i:Nat) K z,rows[i]? = some r'→i<rows.length→rows.length≤1000000000000000→((fun L w=>Qji_r0 w L A A A A A B) K [.list 17 rows,I k,z,I i]↔K [.list 17 rows,I k',z,I ((i:Int)+1)]):=by
  intro A B x hx k h0 hb
  have hle:(l.length:Int)≤1000000000000000:=by omega
  clear hle
  try dsimp only at hb ⊢
  simp only [mHead,mKeys,mSigned] at hb ⊢
  obtain ⟨p1,k1,e1,l1,u1,g1⟩:=marks_IntS x.Head.Keys.Lst (k+1+1+1+1+1+1+1+1) (by omega) (by omega)
  obtain ⟨p2,k2,e2,l2,u2,g2⟩:=marks_IntS x.Head.Heirs.Lst (k1+1) (by omega) (by omega)
  obtain ⟨p3,k3,e3,l3,u3,g3⟩:=marks_IntS x.Head.Judge.Lst (k2+1+1) (by omega) (by omega)
  obtain ⟨p4,k4,e4,l4,u4,g4⟩:=marks_SigS x.Sigs (k3+1+1) (by omega) (by omega)
  refine ⟨[I (k),I (k+1),I (k+1+1),I (k+1+1+1),I (k+1+1+1+1),I (k+1+1+1+1+1),I (k+1+1+1+1+1+1),I (k+1+1+1+1+1+1+1),p1,I (k1),p2,I (k2),I (k2+1),p3,I (k3),.bool ((k3+1).tmod 3==0),p4],k4,mk_sc rfl rfl rfl (wr1 (by omega) (by omega)) (mk_sc rfl rfl rfl (wr1 (by omega) (by omega)) (mk_sc rfl rfl rfl (wr1 (by omega) (by omega)) (mk_sc rfl rfl rfl (wr1 (by omega) (by omega)) (mk_sc (r1:=[I (k),I (k+1),I (k+1+1),I (k+1+1+1),I (k+1+1+1+1),I x.Head.Count,I x.Head.Root,I x.Head.Prev,ints x.Head.Keys.Lst,I x.Head.Keys.Need,ints x.Head.Heirs.Lst,I x.Head.Heirs.Need,I x.Head.Wait,ints x.Head.Judge.Lst,I x.Head.Judge.Need,.bool x.Head.Frozen,.list 2 (x.Sigs.map eSig)]) rfl rfl rfl (wr1 (by omega) (by omega)) (mk_sc rfl rfl rfl (wr1 (by omega) (by omega)) (mk_sc rfl rfl rfl (wr1 (by omega) (by omega)) (mk_sc rfl rfl rfl (wr1 (by omega) (by omega)) (mk_ca rfl rfl e1 rfl (rg_of (by omega) (by omega)) (mk_sc (r1:=[I (k),I (k+1),I (k+1+1),I (k+1+1+1),I (k+1+1+1+1),I (k+1+1+1+1+1),I (k+1+1+1+1+1+1),I (k+1+1+1+1+1+1+1),p1,I (k1),ints x.Head.Heirs.Lst,I x.Head.Heirs.Need,I x.Head.Wait,ints x.Head.Judge.Lst,I x.Head.Judge.Need,.bool x.Head.Frozen,.list 2 (x.Sigs.map eSig)]) rfl rfl rfl (wr1 (by omega) (by omega)) (mk_ca rfl rfl e2 rfl (rg_of (by omega) (by omega)) (mk_sc rfl rfl rfl (wr1 (by omega) (by omega)) (mk_sc rfl rfl rfl (wr1 (by omega) (by omega)) (mk_ca rfl rfl e3 rfl (rg_of (by omega) (by omega)) (mk_sc (r1:=[I (k),I (k+1),I (k+1+1),I (k+1+1+1),I (k+1+1+1+1),I (k+1+1+1+1+1),I (k+1+1+1+1+1+1),I (k+1+1+1+1+1+1+1),p1,I (k1),p2,I (k2),I (k2+1),p3,I (k3),.bool x.Head.Frozen,.list 2 (x.Sigs.map eSig)]) rfl rfl rfl (wr1 (by omega) (by omega)) (mk_sc rfl rfl rfl (wr1 (by omega) (by omega)) (mk_ca rfl rfl e4 rfl (rg_of (by omega) (by omega)) (rfl))))))))))))))))),by omega,by omega,fun rows i K z hr hi hn=>?_⟩
  have f0:=wr1 (k:=k) (by omega) (by omega)
  have f1:=wr1 (k:=k+1) (by omega) (by omega)
  have f2:=wr1 (k:=k+1+1) (by omega) (by omega)
  have f3:=wr1 (k:=k+1+1+1) (by omega) (by omega)
  have f4:=wr1 (k:=k+1+1+1+1) (by omega) (by omega)
  have f5:=wr1 (k:=k+1+1+1+1+1) (by omega) (by omega)
  have f6:=wr1 (k:=k+1+1+1+1+1+1) (by omega) (by omega)
  have f7:=wr1 (k:=k+1+1+1+1+1+1+1) (by omega) (by omega)
  have f9:¬(k1<0):=by omega
  have f10:=wr1 (k:=k1) (by omega) (by omega)
  have f12:¬(k2<0):=by omega
  have f13:=wr1 (k:=k2) (by omega) (by omega)
  have f14:=wr1 (k:=k2+1) (by omega) (by omega)
  have f16:¬(k3<0):=by omega
  have f17:=wr1 (k:=k3) (by omega) (by omega)
  have f18:=wr1 (k:=k3+1) (by omega) (by omega)
  have f20:¬(k4<0):=by omega
  have hlt:(i:Int)<(rows.length:Int):=by omega
  simp only [Qji_r0,un,cur0,lenP_eq,binP_lss,hlt,decide_true,decide_false,iteP_eq,if_true,elemP_row hr,atP_zero,atP_succ,binP_neq,bne_self_eq_false,Bool.false_eq_true,if_false,binP_add,binP_sneq,Bool.not_true,binP_rem,binP_eql,boolP_neq,f0,f1,f2,f3,f4,f5,f6,f7,g1,f9,f10,g2,f12,f13,f14,g3,f16,f17,f18,g4,f20,wr_succ (show i<1000000000000000000 by omega),true_and,ne_eq,not_false_eq_true]
  simp
 obtain ⟨rows',k',p1,p2,p3,p4,p5⟩:=rows_mark eSigned (fun x:GSigned=>mSigned x) 17 l (hrow True fun _ _ _ _=>True) k h0 (by omega)
 have hle:(l.length:Int)≤1000000000000000:=by omega
 refine ⟨.list 17 rows',k',?_,p3,p4,fun K=>?_⟩
 ·exact mkS_list (by rw [List.length_map];omega) p1
 ·refine (call_of (fun K=>?_) K)
  obtain ⟨rows2,k2,r1,r2,r3,r4,r5⟩:=rows_mark eSigned (fun x:GSigned=>mSigned x) 17 l (hrow (rt [.sc] [(I (-1))] K) fun q6 q7 q8 q9=>rt [.sc] [q7] K) k h0 (by omega)
  have hs:=p1.symm.trans r1
  injection hs with hs;injection hs with hs1 hs2
  subst hs1;subst hs2
  have:=r5 [] (I 0) (K [I k']) (by rw [List.nil_append,p2];omega) fun K2=>by
   simp only [Qji_r0,un,cur0,lenP_eq,binP_lss,Int.lt_irrefl,decide_false,iteP_eq,Bool.false_eq_true,if_false,List.nil_append,rt_eq,scs_sc,scs_nil,flat_int,true_and]
  exact this
theorem marks_StringS (l:List ByteArray) (k:Int) (h0:0≤k) (hb:k+40*(((l.length+sumN ByteArray.size l):Nat):Int)≤1000000000000000):∃p k',mk_StringS (strs l) k=some (p,k')∧k≤k'∧k'≤k+40*(((l.length+sumN ByteArray.size l):Nat):Int)∧∀K,call Qjj [.one p,.one (I k)] K=K [I k']:=by
 have hm:((l.length+sumN ByteArray.size l):Nat)=l.length+sumN (fun x:ByteArray=>x.size) l:=rfl
 rw [hm] at hb ⊢
 have hrow:∀(A:Prop) (B:PV→PV→PV→PV→Prop),∀x∈l,∀k,0≤k→k+40*(1+((fun x:ByteArray=>x.size) x:Int))≤1000000000000000→∃r' k',mkRow mk_StringS_r mtx mk_StringS_s (rS x) k=some (r',k')∧k≤k'∧k'≤k+40*(1+((fun x:ByteArray=>x.size) x:Int))∧∀(rows:List (List PV)) (i:Nat) K z,rows[i]? = some r'→i<rows.length→rows.length≤1000000000000000→((fun L w=>Qjj_r0 w L A B) K [.list 1 rows,I k,z,I i]↔K [.list 1 rows,I k',z,I ((i:Int)+1)]):=by
  intro A B x hx k h0 hb
  have hle:(l.length:Int)≤1000000000000000:=by omega
  clear hle
  try dsimp only at hb ⊢
  have hb0:=hb
  refine ⟨[.str (mtx (k))],k+1,mk_sc rfl rfl rfl (wr1 (by omega) (by omega)) (rfl),by omega,by omega,fun rows i K z hr hi hn=>?_⟩
  have f0:=wr1 (k:=k) (by omega) (by omega)
  have f1:=laws_markText_n (k) (rg_of (by omega) (by omega))
  have hlt:(i:Int)<(rows.length:Int):=by omega
  simp only [Qjj_r0,un,cur0,lenP_eq,binP_lss,hlt,decide_true,decide_false,iteP_eq,if_true,elemP_row hr,atP_zero,atP_succ,binP_neq,bne_self_eq_false,Bool.false_eq_true,if_false,binP_add,binP_sneq,Bool.not_true,binP_rem,binP_eql,boolP_neq,f0,f1,wr_succ (show i<1000000000000000000 by omega),true_and,ne_eq,not_false_eq_true]
 obtain ⟨rows',k',p1,p2,p3,p4,p5⟩:=rows_mark rS (fun x:ByteArray=>x.size) 1 l (hrow True fun _ _ _ _=>True) k h0 (by omega)
 have hle:(l.length:Int)≤1000000000000000:=by omega
 refine ⟨.list 1 rows',k',?_,p3,p4,fun K=>?_⟩
 ·exact mkS_list (by rw [List.length_map];omega) p1
 ·refine (call_of (fun K=>?_) K)
  obtain ⟨rows2,k2,r1,r2,r3,r4,r5⟩:=rows_mark rS (fun x:ByteArray=>x.size) 1 l (hrow (rt [.sc] [(I (-1))] K) fun q6 q7 q8 q9=>rt [.sc] [q7] K) k h0 (by omega)
  have hs:=p1.symm.trans r1
  injection hs with hs;injection hs with hs1 hs2
  subst hs1;subst hs2
  have:=r5 [] (I 0) (K [I k']) (by rw [List.nil_append,p2];omega) fun K2=>by
   simp only [Qjj_r0,un,cur0,lenP_eq,binP_lss,Int.lt_irrefl,decide_false,iteP_eq,Bool.false_eq_true,if_false,List.nil_append,rt_eq,scs_sc,scs_nil,flat_int,true_and]
  exact this
theorem marks_EntryS (l:List GEntry) (k:Int) (h0:0≤k) (hb:k+40*((mEntryS l:Nat):Int)≤1000000000000000):∃p k',mk_EntryS (.list 4 (l.map eEntry)) k=some (p,k')∧k≤k'∧k'≤k+40*((mEntryS l:Nat):Int)∧∀K,call Qjk [.one p,.one (I k)] K=K [I k']:=by
 have hm:mEntryS l=l.length+sumN (fun x:GEntry=>mEntry x) l:=rfl
 rw [hm] at hb ⊢
 have hrow:∀(A:Prop) (B:PV→PV→PV→PV→Prop),∀x∈l,∀k,0≤k→k+40*(1+((fun x:GEntry=>mEntry x) x:Int))≤1000000000000000→∃r' k',mkRow mk_EntryS_r mtx mk_EntryS_s (eEntry x) k=some (r',k')∧k≤k'∧k'≤k+40*(1+((fun x:GEntry=>mEntry x) x:Int))∧∀(rows:List (List PV)) (i:Nat) K z,rows[i]? = some r'→i<rows.length→rows.length≤1000000000000000→((fun L w=>Qjk_r0 w L A A B) K [.list 4 rows,I k,z,I i]↔K [.list 4 rows,I k',z,I ((i:Int)+1)]):=by
  intro A B x hx k h0 hb
  have hle:(l.length:Int)≤1000000000000000:=by omega
  clear hle
  try dsimp only at hb ⊢
  simp only [mEntry] at hb ⊢
  obtain ⟨p1,k1,e1,l1,u1,g1⟩:=marks_StringS x.Path (k+1+1+1) (by omega) (by omega)
  refine ⟨[.str (mtx (k)),I (k+1),I (k+1+1),p1],k1,mk_sc rfl rfl rfl (wr1 (by omega) (by omega)) (mk_sc rfl rfl rfl (wr1 (by omega) (by omega)) (mk_sc rfl rfl rfl (wr1 (by omega) (by omega)) (mk_ca rfl rfl e1 rfl (rg_of (by omega) (by omega)) (rfl)))),by omega,by omega,fun rows i K z hr hi hn=>?_⟩
  have f0:=wr1 (k:=k) (by omega) (by omega)
  have f1:=laws_markText_n (k) (rg_of (by omega) (by omega))
  have f2:=wr1 (k:=k+1) (by omega) (by omega)
  have f3:=wr1 (k:=k+1+1) (by omega) (by omega)
  have f5:¬(k1<0):=by omega
  have hlt:(i:Int)<(rows.length:Int):=by omega
  simp only [Qjk_r0,un,cur0,lenP_eq,binP_lss,hlt,decide_true,decide_false,iteP_eq,if_true,elemP_row hr,atP_zero,atP_succ,binP_neq,bne_self_eq_false,Bool.false_eq_true,if_false,binP_add,binP_sneq,Bool.not_true,binP_rem,binP_eql,boolP_neq,f0,f1,f2,f3,g1,f5,wr_succ (show i<1000000000000000000 by omega),true_and,ne_eq,not_false_eq_true]
 obtain ⟨rows',k',p1,p2,p3,p4,p5⟩:=rows_mark eEntry (fun x:GEntry=>mEntry x) 4 l (hrow True fun _ _ _ _=>True) k h0 (by omega)
 have hle:(l.length:Int)≤1000000000000000:=by omega
 refine ⟨.list 4 rows',k',?_,p3,p4,fun K=>?_⟩
 ·exact mkS_list (by rw [List.length_map];omega) p1
 ·refine (call_of (fun K=>?_) K)
  obtain ⟨rows2,k2,r1,r2,r3,r4,r5⟩:=rows_mark eEntry (fun x:GEntry=>mEntry x) 4 l (hrow (rt [.sc] [(I (-1))] K) fun q6 q7 q8 q9=>rt [.sc] [q7] K) k h0 (by omega)
  have hs:=p1.symm.trans r1
  injection hs with hs;injection hs with hs1 hs2
  subst hs1;subst hs2
  have:=r5 [] (I 0) (K [I k']) (by rw [List.nil_append,p2];omega) fun K2=>by
   simp only [Qjk_r0,un,cur0,lenP_eq,binP_lss,Int.lt_irrefl,decide_false,iteP_eq,Bool.false_eq_true,if_false,List.nil_append,rt_eq,scs_sc,scs_nil,flat_int,true_and]
  exact this
theorem marks_ZoneS (l:List GZone) (k:Int) (h0:0≤k) (hb:k+40*((mZoneS l:Nat):Int)≤1000000000000000):∃p k',mk_ZoneS (.list 2 (l.map eZone)) k=some (p,k')∧k≤k'∧k'≤k+40*((mZoneS l:Nat):Int)∧∀K,call Qjl [.one p,.one (I k)] K=K [I k']:=by
 have hm:mZoneS l=l.length+sumN (fun x:GZone=>mZone x) l:=rfl
 rw [hm] at hb ⊢
 have hrow:∀(A:Prop) (B:PV→PV→PV→PV→Prop),∀x∈l,∀k,0≤k→k+40*(1+((fun x:GZone=>mZone x) x:Int))≤1000000000000000→∃r' k',mkRow mk_ZoneS_r mtx mk_ZoneS_s (eZone x) k=some (r',k')∧k≤k'∧k'≤k+40*(1+((fun x:GZone=>mZone x) x:Int))∧∀(rows:List (List PV)) (i:Nat) K z,rows[i]? = some r'→i<rows.length→rows.length≤1000000000000000→((fun L w=>Qjl_r0 w L A A B) K [.list 2 rows,I k,z,I i]↔K [.list 2 rows,I k',z,I ((i:Int)+1)]):=by
  intro A B x hx k h0 hb
  have hle:(l.length:Int)≤1000000000000000:=by omega
  clear hle
  try dsimp only at hb ⊢
  simp only [mZone] at hb ⊢
  obtain ⟨p1,k1,e1,l1,u1,g1⟩:=marks_SignedS x.Chain (k) (by omega) (by omega)
  obtain ⟨p2,k2,e2,l2,u2,g2⟩:=marks_EntryS x.Entries (k1) (by omega) (by omega)
  refine ⟨[p1,p2],k2,mk_ca rfl rfl e1 rfl (rg_of (by omega) (by omega)) (mk_ca rfl rfl e2 rfl (rg_of (by omega) (by omega)) (rfl)),by omega,by omega,fun rows i K z hr hi hn=>?_⟩
  have f1:¬(k1<0):=by omega
  have f3:¬(k2<0):=by omega
  have hlt:(i:Int)<(rows.length:Int):=by omega
  simp only [Qjl_r0,un,cur0,lenP_eq,binP_lss,hlt,decide_true,decide_false,iteP_eq,if_true,elemP_row hr,atP_zero,atP_succ,binP_neq,bne_self_eq_false,Bool.false_eq_true,if_false,binP_add,binP_sneq,Bool.not_true,binP_rem,binP_eql,boolP_neq,g1,f1,g2,f3,wr_succ (show i<1000000000000000000 by omega),true_and,ne_eq,not_false_eq_true]
 obtain ⟨rows',k',p1,p2,p3,p4,p5⟩:=rows_mark eZone (fun x:GZone=>mZone x) 2 l (hrow True fun _ _ _ _=>True) k h0 (by omega)
 have hle:(l.length:Int)≤1000000000000000:=by omega
 refine ⟨.list 2 rows',k',?_,p3,p4,fun K=>?_⟩
 ·exact mkS_list (by rw [List.length_map];omega) p1
 ·refine (call_of (fun K=>?_) K)
  obtain ⟨rows2,k2,r1,r2,r3,r4,r5⟩:=rows_mark eZone (fun x:GZone=>mZone x) 2 l (hrow (rt [.sc] [(I (-1))] K) fun q6 q7 q8 q9=>rt [.sc] [q7] K) k h0 (by omega)
  have hs:=p1.symm.trans r1
  injection hs with hs;injection hs with hs1 hs2
  subst hs1;subst hs2
  have:=r5 [] (I 0) (K [I k']) (by rw [List.nil_append,p2];omega) fun K2=>by
   simp only [Qjl_r0,un,cur0,lenP_eq,binP_lss,Int.lt_irrefl,decide_false,iteP_eq,Bool.false_eq_true,if_false,List.nil_append,rt_eq,scs_sc,scs_nil,flat_int,true_and]
  exact this
theorem marks_SaidS (l:List GSaid) (k:Int) (h0:0≤k) (hb:k+40*((mSaidS l:Nat):Int)≤1000000000000000):∃p k',mk_SaidS (.list 3 (l.map eSaid)) k=some (p,k')∧k≤k'∧k'≤k+40*((mSaidS l:Nat):Int)∧∀K,call Qjm [.one p,.one (I k)] K=K [I k']:=by
 have hm:mSaidS l=l.length+sumN (fun x:GSaid=>mSaid x) l:=rfl
 rw [hm] at hb ⊢
 have hrow:∀(A:Prop) (B:PV→PV→PV→PV→Prop),∀x∈l,∀k,0≤k→k+40*(1+((fun x:GSaid=>mSaid x) x:Int))≤1000000000000000→∃r' k',mkRow mk_SaidS_r mtx mk_SaidS_s (eSaid x) k=some (r',k')∧k≤k'∧k'≤k+40*(1+((fun x:GSaid=>mSaid x) x:Int))∧∀(rows:List (List PV)) (i:Nat) K z,rows[i]? = some r'→i<rows.length→rows.length≤1000000000000000→((fun L w=>Qjm_r0 w L A A A B) K [.list 3 rows,I k,z,I i]↔K [.list 3 rows,I k',z,I ((i:Int)+1)]):=by
  intro A B x hx k h0 hb
  have hle:(l.length:Int)≤1000000000000000:=by omega
  clear hle
  try dsimp only at hb ⊢
  simp only [mSaid,mZone] at hb ⊢
  obtain ⟨p1,k1,e1,l1,u1,g1⟩:=marks_SignedS x.Zone.Chain (k) (by omega) (by omega)
  obtain ⟨p2,k2,e2,l2,u2,g2⟩:=marks_EntryS x.Zone.Entries (k1) (by omega) (by omega)
  obtain ⟨p3,k3,e3,l3,u3,g3⟩:=marks_IntS x.Held (k2) (by omega) (by omega)
  refine ⟨[p1,p2,p3],k3,mk_ca rfl rfl e1 rfl (rg_of (by omega) (by omega)) (mk_ca rfl rfl e2 rfl (rg_of (by omega) (by omega)) (mk_ca rfl rfl e3 rfl (rg_of (by omega) (by omega)) (rfl))),by omega,by omega,fun rows i K z hr hi hn=>?_⟩
  have f1:¬(k1<0):=by omega
  have f3:¬(k2<0):=by omega
  have f5:¬(k3<0):=by omega
  have hlt:(i:Int)<(rows.length:Int):=by omega
  simp only [Qjm_r0,un,cur0,lenP_eq,binP_lss,hlt,decide_true,decide_false,iteP_eq,if_true,elemP_row hr,atP_zero,atP_succ,binP_neq,bne_self_eq_false,Bool.false_eq_true,if_false,binP_add,binP_sneq,Bool.not_true,binP_rem,binP_eql,boolP_neq,g1,f1,g2,f3,g3,f5,wr_succ (show i<1000000000000000000 by omega),true_and,ne_eq,not_false_eq_true]
 obtain ⟨rows',k',p1,p2,p3,p4,p5⟩:=rows_mark eSaid (fun x:GSaid=>mSaid x) 3 l (hrow True fun _ _ _ _=>True) k h0 (by omega)
 have hle:(l.length:Int)≤1000000000000000:=by omega
 refine ⟨.list 3 rows',k',?_,p3,p4,fun K=>?_⟩
 ·exact mkS_list (by rw [List.length_map];omega) p1
 ·refine (call_of (fun K=>?_) K)
  obtain ⟨rows2,k2,r1,r2,r3,r4,r5⟩:=rows_mark eSaid (fun x:GSaid=>mSaid x) 3 l (hrow (rt [.sc] [(I (-1))] K) fun q6 q7 q8 q9=>rt [.sc] [q7] K) k h0 (by omega)
  have hs:=p1.symm.trans r1
  injection hs with hs;injection hs with hs1 hs2
  subst hs1;subst hs2
  have:=r5 [] (I 0) (K [I k']) (by rw [List.nil_append,p2];omega) fun K2=>by
   simp only [Qjm_r0,un,cur0,lenP_eq,binP_lss,Int.lt_irrefl,decide_false,iteP_eq,Bool.false_eq_true,if_false,List.nil_append,rt_eq,scs_sc,scs_nil,flat_int,true_and]
  exact this
theorem marks_ServerS (l:List GServer) (k:Int) (h0:0≤k) (hb:k+40*((mServerS l:Nat):Int)≤1000000000000000):∃p k',mk_ServerS (.list 2 (l.map eServer)) k=some (p,k')∧k≤k'∧k'≤k+40*((mServerS l:Nat):Int)∧∀K,call Qjn [.one p,.one (I k)] K=K [I k']:=by
 have hm:mServerS l=l.length+sumN (fun x:GServer=>mServer x) l:=rfl
 rw [hm] at hb ⊢
 have hrow:∀(A:Prop) (B:PV→PV→PV→PV→Prop),∀x∈l,∀k,0≤k→k+40*(1+((fun x:GServer=>mServer x) x:Int))≤1000000000000000→∃r' k',mkRow mk_ServerS_r mtx mk_ServerS_s (eServer x) k=some (r',k')∧k≤k'∧k'≤k+40*(1+((fun x:GServer=>mServer x) x:Int))∧∀(rows:List (List PV)) (i:Nat) K z,rows[i]? = some r'→i<rows.length→rows.length≤1000000000000000→((fun L w=>Qjn_r0 w L A B) K [.list 2 rows,I k,z,I i]↔K [.list 2 rows,I k',z,I ((i:Int)+1)]):=by
  intro A B x hx k h0 hb
  have hle:(l.length:Int)≤1000000000000000:=by omega
  clear hle
  try dsimp only at hb ⊢
  simp only [mServer] at hb ⊢
  obtain ⟨p1,k1,e1,l1,u1,g1⟩:=marks_ZoneS x.Zones (k) (by omega) (by omega)
  refine ⟨[p1,I (k1)],k1+1,mk_ca rfl rfl e1 rfl (rg_of (by omega) (by omega)) (mk_sc rfl rfl rfl (wr1 (by omega) (by omega)) (rfl)),by omega,by omega,fun rows i K z hr hi hn=>?_⟩
  have f1:¬(k1<0):=by omega
  have f2:=wr1 (k:=k1) (by omega) (by omega)
  have hlt:(i:Int)<(rows.length:Int):=by omega
  simp only [Qjn_r0,un,cur0,lenP_eq,binP_lss,hlt,decide_true,decide_false,iteP_eq,if_true,elemP_row hr,atP_zero,atP_succ,binP_neq,bne_self_eq_false,Bool.false_eq_true,if_false,binP_add,binP_sneq,Bool.not_true,binP_rem,binP_eql,boolP_neq,g1,f1,f2,wr_succ (show i<1000000000000000000 by omega),true_and,ne_eq,not_false_eq_true]
 obtain ⟨rows',k',p1,p2,p3,p4,p5⟩:=rows_mark eServer (fun x:GServer=>mServer x) 2 l (hrow True fun _ _ _ _=>True) k h0 (by omega)
 have hle:(l.length:Int)≤1000000000000000:=by omega
 refine ⟨.list 2 rows',k',?_,p3,p4,fun K=>?_⟩
 ·exact mkS_list (by rw [List.length_map];omega) p1
 ·refine (call_of (fun K=>?_) K)
  obtain ⟨rows2,k2,r1,r2,r3,r4,r5⟩:=rows_mark eServer (fun x:GServer=>mServer x) 2 l (hrow (rt [.sc] [(I (-1))] K) fun q6 q7 q8 q9=>rt [.sc] [q7] K) k h0 (by omega)
  have hs:=p1.symm.trans r1
  injection hs with hs;injection hs with hs1 hs2
  subst hs1;subst hs2
  have:=r5 [] (I 0) (K [I k']) (by rw [List.nil_append,p2];omega) fun K2=>by
   simp only [Qjn_r0,un,cur0,lenP_eq,binP_lss,Int.lt_irrefl,decide_false,iteP_eq,Bool.false_eq_true,if_false,List.nil_append,rt_eq,scs_sc,scs_nil,flat_int,true_and]
  exact this
theorem marks_SignedSS (l:List (List GSigned)) (k:Int) (h0:0≤k) (hb:k+40*((mSignedSS l:Nat):Int)≤1000000000000000):∃p k',mk_SignedSS (.list 1 (l.map (fun l:List GSigned=>[.list 17 (l.map eSigned)]))) k=some (p,k')∧k≤k'∧k'≤k+40*((mSignedSS l:Nat):Int)∧∀K,call Qjo [.one p,.one (I k)] K=K [I k']:=by
 have hm:mSignedSS l=l.length+sumN (fun x:List GSigned=>mSignedS x) l:=rfl
 rw [hm] at hb ⊢
 have hrow:∀(A:Prop) (B:PV→PV→PV→PV→Prop),∀x∈l,∀k,0≤k→k+40*(1+((fun x:List GSigned=>mSignedS x) x:Int))≤1000000000000000→∃r' k',mkRow mk_SignedSS_r mtx mk_SignedSS_s ((fun l:List GSigned=>[.list 17 (l.map eSigned)]) x) k=some (r',k')∧k≤k'∧k'≤k+40*(1+((fun x:List GSigned=>mSignedS x) x:Int))∧∀(rows:List (List PV)) (i:Nat) K z,rows[i]? = some r'→i<rows.length→rows.length≤1000000000000000→((fun L w=>Qjo_r0 w L A B) K [.list 1 rows,I k,z,I i]↔K [.list 1 rows,I k',z,I ((i:Int)+1)]):=by
  intro A B x hx k h0 hb
  have hle:(l.length:Int)≤1000000000000000:=by omega
  clear hle
  try dsimp only at hb ⊢
  have hb0:=hb
  obtain ⟨p1,k1,e1,l1,u1,g1⟩:=marks_SignedS x (k) (by omega) (by omega)
  refine ⟨[p1],k1,mk_ca rfl rfl e1 rfl (rg_of (by omega) (by omega)) (rfl),by omega,by omega,fun rows i K z hr hi hn=>?_⟩
  have f1:¬(k1<0):=by omega
  have hlt:(i:Int)<(rows.length:Int):=by omega
  simp only [Qjo_r0,un,cur0,lenP_eq,binP_lss,hlt,decide_true,decide_false,iteP_eq,if_true,elemP_row hr,atP_zero,atP_succ,binP_neq,bne_self_eq_false,Bool.false_eq_true,if_false,binP_add,binP_sneq,Bool.not_true,binP_rem,binP_eql,boolP_neq,g1,f1,wr_succ (show i<1000000000000000000 by omega),true_and,ne_eq,not_false_eq_true]
 obtain ⟨rows',k',p1,p2,p3,p4,p5⟩:=rows_mark (fun l:List GSigned=>[.list 17 (l.map eSigned)]) (fun x:List GSigned=>mSignedS x) 1 l (hrow True fun _ _ _ _=>True) k h0 (by omega)
 have hle:(l.length:Int)≤1000000000000000:=by omega
 refine ⟨.list 1 rows',k',?_,p3,p4,fun K=>?_⟩
 ·exact mkS_list (by rw [List.length_map];omega) p1
 ·refine (call_of (fun K=>?_) K)
  obtain ⟨rows2,k2,r1,r2,r3,r4,r5⟩:=rows_mark (fun l:List GSigned=>[.list 17 (l.map eSigned)]) (fun x:List GSigned=>mSignedS x) 1 l (hrow (rt [.sc] [(I (-1))] K) fun q6 q7 q8 q9=>rt [.sc] [q7] K) k h0 (by omega)
  have hs:=p1.symm.trans r1
  injection hs with hs;injection hs with hs1 hs2
  subst hs1;subst hs2
  have:=r5 [] (I 0) (K [I k']) (by rw [List.nil_append,p2];omega) fun K2=>by
   simp only [Qjo_r0,un,cur0,lenP_eq,binP_lss,Int.lt_irrefl,decide_false,iteP_eq,Bool.false_eq_true,if_false,List.nil_append,rt_eq,scs_sc,scs_nil,flat_int,true_and]
  exact this
theorem marks_ForkS (l:List GFork) (k:Int) (h0:0≤k) (hb:k+40*((mForkS l:Nat):Int)≤1000000000000000):∃p k',mk_ForkS (.list 51 (l.map eFork)) k=some (p,k')∧k≤k'∧k'≤k+40*((mForkS l:Nat):Int)∧∀K,call Qjp [.one p,.one (I k)] K=K [I k']:=by
 have hm:mForkS l=l.length+sumN (fun x:GFork=>mFork x) l:=rfl
 rw [hm] at hb ⊢
 have hrow:∀(A:Prop) (B:PV→PV→PV→PV→Prop),∀x∈l,∀k,0≤k→k+40*(1+((fun x:GFork=>mFork x) x:Int))≤1000000000000000→∃r' k',mkRow mk_ForkS_r mtx mk_ForkS_s (eFork x) k=some (r',k')∧k≤k'∧k'≤k+40*(1+((fun x:GFork=>mFork x) x:Int))∧∀(rows:List (List PV)) (i:Nat) K z,rows[i]? = some r'→i<rows.length→rows.length≤1000000000000000→((fun L w=>Qjp_r0 w L B A A A A A A A A A A A A A) K [.list 51 rows,I k,z,I i]↔K [.list 51 rows,I k',z,I ((i:Int)+1)]):=by
  intro A B x hx k h0 hb
  have hle:(l.length:Int)≤1000000000000000:=by omega
  clear hle
  try dsimp only at hb ⊢
  simp only [mFork,mHead,mKeys,mSigned] at hb ⊢
  obtain ⟨p1,k1,e1,l1,u1,g1⟩:=marks_IntS x.Before.Head.Keys.Lst (k+1+1+1+1+1+1+1+1) (by omega) (by omega)
  obtain ⟨p2,k2,e2,l2,u2,g2⟩:=marks_IntS x.Before.Head.Heirs.Lst (k1+1) (by omega) (by omega)
  obtain ⟨p3,k3,e3,l3,u3,g3⟩:=marks_IntS x.Before.Head.Judge.Lst (k2+1+1) (by omega) (by omega)
  obtain ⟨p4,k4,e4,l4,u4,g4⟩:=marks_SigS x.Before.Sigs (k3+1+1) (by omega) (by omega)
  obtain ⟨p5,k5,e5,l5,u5,g5⟩:=marks_IntS x.A.Head.Keys.Lst (k4+1+1+1+1+1+1+1+1) (by omega) (by omega)
  obtain ⟨p6,k6,e6,l6,u6,g6⟩:=marks_IntS x.A.Head.Heirs.Lst (k5+1) (by omega) (by omega)
  obtain ⟨p7,k7,e7,l7,u7,g7⟩:=marks_IntS x.A.Head.Judge.Lst (k6+1+1) (by omega) (by omega)
  obtain ⟨p8,k8,e8,l8,u8,g8⟩:=marks_SigS x.A.Sigs (k7+1+1) (by omega) (by omega)
  obtain ⟨p9,k9,e9,l9,u9,g9⟩:=marks_IntS x.B.Head.Keys.Lst (k8+1+1+1+1+1+1+1+1) (by omega) (by omega)
  obtain ⟨p10,k10,e10,l10,u10,g10⟩:=marks_IntS x.B.Head.Heirs.Lst (k9+1) (by omega) (by omega)
  obtain ⟨p11,k11,e11,l11,u11,g11⟩:=marks_IntS x.B.Head.Judge.Lst (k10+1+1) (by omega) (by omega)
  obtain ⟨p12,k12,e12,l12,u12,g12⟩:=marks_SigS x.B.Sigs (k11+1+1) (by omega) (by omega)
  refine ⟨[I (k),I (k+1),I (k+1+1),I (k+1+1+1),I (k+1+1+1+1),I (k+1+1+1+1+1),I (k+1+1+1+1+1+1),I (k+1+1+1+1+1+1+1),p1,I (k1),p2,I (k2),I (k2+1),p3,I (k3),.bool ((k3+1).tmod 3==0),p4,I (k4),I (k4+1),I (k4+1+1),I (k4+1+1+1),I (k4+1+1+1+1),I (k4+1+1+1+1+1),I (k4+1+1+1+1+1+1),I (k4+1+1+1+1+1+1+1),p5,I (k5),p6,I (k6),I (k6+1),p7,I (k7),.bool ((k7+1).tmod 3==0),p8,I (k8),I (k8+1),I (k8+1+1),I (k8+1+1+1),I (k8+1+1+1+1),I (k8+1+1+1+1+1),I (k8+1+1+1+1+1+1),I (k8+1+1+1+1+1+1+1),p9,I (k9),p10,I (k10),I (k10+1),p11,I (k11),.bool ((k11+1).tmod 3==0),p12],k12,mk_sc rfl rfl rfl (wr1 (by omega) (by omega)) (mk_sc rfl rfl rfl (wr1 (by omega) (by omega)) (mk_sc rfl rfl rfl (wr1 (by omega) (by omega)) (mk_sc rfl rfl rfl (wr1 (by omega) (by omega)) (mk_sc (r1:=[I (k),I (k+1),I (k+1+1),I (k+1+1+1),I (k+1+1+1+1),I x.Before.Head.Count,I x.Before.Head.Root,I x.Before.Head.Prev,ints x.Before.Head.Keys.Lst,I x.Before.Head.Keys.Need,ints x.Before.Head.Heirs.Lst,I x.Before.Head.Heirs.Need,I x.Before.Head.Wait,ints x.Before.Head.Judge.Lst,I x.Before.Head.Judge.Need,.bool x.Before.Head.Frozen,.list 2 (x.Before.Sigs.map eSig),I x.A.Head.Zone,I x.A.Head.Epoch,I x.A.Head.Kind,I x.A.Head.Time,I x.A.Head.Until,I x.A.Head.Count,I x.A.Head.Root,I x.A.Head.Prev,ints x.A.Head.Keys.Lst,I x.A.Head.Keys.Need,ints x.A.Head.Heirs.Lst,I x.A.Head.Heirs.Need,I x.A.Head.Wait,ints x.A.Head.Judge.Lst,I x.A.Head.Judge.Need,.bool x.A.Head.Frozen,.list 2 (x.A.Sigs.map eSig),I x.B.Head.Zone,I x.B.Head.Epoch,I x.B.Head.Kind,I x.B.Head.Time,I x.B.Head.Until,I x.B.Head.Count,I x.B.Head.Root,I x.B.Head.Prev,ints x.B.Head.Keys.Lst,I x.B.Head.Keys.Need,ints x.B.Head.Heirs.Lst,I x.B.Head.Heirs.Need,I x.B.Head.Wait,ints x.B.Head.Judge.Lst,I x.B.Head.Judge.Need,.bool x.B.Head.Frozen,.list 2 (x.B.Sigs.map eSig)]) rfl rfl rfl (wr1 (by omega) (by omega)) (mk_sc rfl rfl rfl (wr1 (by omega) (by omega)) (mk_sc rfl rfl rfl (wr1 (by omega) (by omega)) (mk_sc rfl rfl rfl (wr1 (by omega) (by omega)) (mk_ca rfl rfl e1 rfl (rg_of (by omega) (by omega)) (mk_sc (r1:=[I (k),I (k+1),I (k+1+1),I (k+1+1+1),I (k+1+1+1+1),I (k+1+1+1+1+1),I (k+1+1+1+1+1+1),I (k+1+1+1+1+1+1+1),p1,I (k1),ints x.Before.Head.Heirs.Lst,I x.Before.Head.Heirs.Need,I x.Before.Head.Wait,ints x.Before.Head.Judge.Lst,I x.Before.Head.Judge.Need,.bool x.Before.Head.Frozen,.list 2 (x.Before.Sigs.map eSig),I x.A.Head.Zone,I x.A.Head.Epoch,I x.A.Head.Kind,I x.A.Head.Time,I x.A.Head.Until,I x.A.Head.Count,I x.A.Head.Root,I x.A.Head.Prev,ints x.A.Head.Keys.Lst,I x.A.Head.Keys.Need,ints x.A.Head.Heirs.Lst,I x.A.Head.Heirs.Need,I x.A.Head.Wait,ints x.A.Head.Judge.Lst,I x.A.Head.Judge.Need,.bool x.A.Head.Frozen,.list 2 (x.A.Sigs.map eSig),I x.B.Head.Zone,I x.B.Head.Epoch,I x.B.Head.Kind,I x.B.Head.Time,I x.B.Head.Until,I x.B.Head.Count,I x.B.Head.Root,I x.B.Head.Prev,ints x.B.Head.Keys.Lst,I x.B.Head.Keys.Need,ints x.B.Head.Heirs.Lst,I x.B.Head.Heirs.Need,I x.B.Head.Wait,ints x.B.Head.Judge.Lst,I x.B.Head.Judge.Need,.bool x.B.Head.Frozen,.list 2 (x.B.Sigs.map eSig)]) rfl rfl rfl (wr1 (by omega) (by omega)) (mk_ca rfl rfl e2 rfl (rg_of (by omega) (by omega)) (mk_sc rfl rfl rfl (wr1 (by omega) (by omega)) (mk_sc rfl rfl rfl (wr1 (by omega) (by omega)) (mk_ca rfl rfl e3 rfl (rg_of (by omega) (by omega)) (mk_sc (r1:=[I (k),I (k+1),I (k+1+1),I (k+1+1+1),I (k+1+1+1+1),I (k+1+1+1+1+1),I (k+1+1+1+1+1+1),I (k+1+1+1+1+1+1+1),p1,I (k1),p2,I (k2),I (k2+1),p3,I (k3),.bool x.Before.Head.Frozen,.list 2 (x.Before.Sigs.map eSig),I x.A.Head.Zone,I x.A.Head.Epoch,I x.A.Head.Kind,I x.A.Head.Time,I x.A.Head.Until,I x.A.Head.Count,I x.A.Head.Root,I x.A.Head.Prev,ints x.A.Head.Keys.Lst,I x.A.Head.Keys.Need,ints x.A.Head.Heirs.Lst,I x.A.Head.Heirs.Need,I x.A.Head.Wait,ints x.A.Head.Judge.Lst,I x.A.Head.Judge.Need,.bool x.A.Head.Frozen,.list 2 (x.A.Sigs.map eSig),I x.B.Head.Zone,I x.B.Head.Epoch,I x.B.Head.Kind,I x.B.Head.Time,I x.B.Head.Until,I x.B.Head.Count,I x.B.Head.Root,I x.B.Head.Prev,ints x.B.Head.Keys.Lst,I x.B.Head.Keys.Need,ints x.B.Head.Heirs.Lst,I x.B.Head.Heirs.Need,I x.B.Head.Wait,ints x.B.Head.Judge.Lst,I x.B.Head.Judge.Need,.bool x.B.Head.Frozen,.list 2 (x.B.Sigs.map eSig)]) rfl rfl rfl (wr1 (by omega) (by omega)) (mk_sc rfl rfl rfl (wr1 (by omega) (by omega)) (mk_ca rfl rfl e4 rfl (rg_of (by omega) (by omega)) (mk_sc rfl rfl rfl (wr1 (by omega) (by omega)) (mk_sc rfl rfl rfl (wr1 (by omega) (by omega)) (mk_sc (r1:=[I (k),I (k+1),I (k+1+1),I (k+1+1+1),I (k+1+1+1+1),I (k+1+1+1+1+1),I (k+1+1+1+1+1+1),I (k+1+1+1+1+1+1+1),p1,I (k1),p2,I (k2),I (k2+1),p3,I (k3),.bool ((k3+1).tmod 3==0),p4,I (k4),I (k4+1),I (k4+1+1),I x.A.Head.Time,I x.A.Head.Until,I x.A.Head.Count,I x.A.Head.Root,I x.A.Head.Prev,ints x.A.Head.Keys.Lst,I x.A.Head.Keys.Need,ints x.A.Head.Heirs.Lst,I x.A.Head.Heirs.Need,I x.A.Head.Wait,ints x.A.Head.Judge.Lst,I x.A.Head.Judge.Need,.bool x.A.Head.Frozen,.list 2 (x.A.Sigs.map eSig),I x.B.Head.Zone,I x.B.Head.Epoch,I x.B.Head.Kind,I x.B.Head.Time,I x.B.Head.Until,I x.B.Head.Count,I x.B.Head.Root,I x.B.Head.Prev,ints x.B.Head.Keys.Lst,I x.B.Head.Keys.Need,ints x.B.Head.Heirs.Lst,I x.B.Head.Heirs.Need,I x.B.Head.Wait,ints x.B.Head.Judge.Lst,I x.B.Head.Judge.Need,.bool x.B.Head.Frozen,.list 2 (x.B.Sigs.map eSig)]) rfl rfl rfl (wr1 (by omega) (by omega)) (mk_sc rfl rfl rfl (wr1 (by omega) (by omega)) (mk_sc rfl rfl rfl (wr1 (by omega) (by omega)) (mk_sc rfl rfl rfl (wr1 (by omega) (by omega)) (mk_sc rfl rfl rfl (wr1 (by omega) (by omega)) (mk_sc (r1:=[I (k),I (k+1),I (k+1+1),I (k+1+1+1),I (k+1+1+1+1),I (k+1+1+1+1+1),I (k+1+1+1+1+1+1),I (k+1+1+1+1+1+1+1),p1,I (k1),p2,I (k2),I (k2+1),p3,I (k3),.bool ((k3+1).tmod 3==0),p4,I (k4),I (k4+1),I (k4+1+1),I (k4+1+1+1),I (k4+1+1+1+1),I (k4+1+1+1+1+1),I (k4+1+1+1+1+1+1),I (k4+1+1+1+1+1+1+1),ints x.A.Head.Keys.Lst,I x.A.Head.Keys.Need,ints x.A.Head.Heirs.Lst,I x.A.Head.Heirs.Need,I x.A.Head.Wait,ints x.A.Head.Judge.Lst,I x.A.Head.Judge.Need,.bool x.A.Head.Frozen,.list 2 (x.A.Sigs.map eSig),I x.B.Head.Zone,I x.B.Head.Epoch,I x.B.Head.Kind,I x.B.Head.Time,I x.B.Head.Until,I x.B.Head.Count,I x.B.Head.Root,I x.B.Head.Prev,ints x.B.Head.Keys.Lst,I x.B.Head.Keys.Need,ints x.B.Head.Heirs.Lst,I x.B.Head.Heirs.Need,I x.B.Head.Wait,ints x.B.Head.Judge.Lst,I x.B.Head.Judge.Need,.bool x.B.Head.Frozen,.list 2 (x.B.Sigs.map eSig)]) rfl rfl rfl (wr1 (by omega) (by omega)) (mk_ca rfl rfl e5 rfl (rg_of (by omega) (by omega)) (mk_sc rfl rfl rfl (wr1 (by omega) (by omega)) (mk_ca rfl rfl e6 rfl (rg_of (by omega) (by omega)) (mk_sc rfl rfl rfl (wr1 (by omega) (by omega)) (mk_sc (r1:=[I (k),I (k+1),I (k+1+1),I (k+1+1+1),I (k+1+1+1+1),I (k+1+1+1+1+1),I (k+1+1+1+1+1+1),I (k+1+1+1+1+1+1+1),p1,I (k1),p2,I (k2),I (k2+1),p3,I (k3),.bool ((k3+1).tmod 3==0),p4,I (k4),I (k4+1),I (k4+1+1),I (k4+1+1+1),I (k4+1+1+1+1),I (k4+1+1+1+1+1),I (k4+1+1+1+1+1+1),I (k4+1+1+1+1+1+1+1),p5,I (k5),p6,I (k6),I (k6+1),ints x.A.Head.Judge.Lst,I x.A.Head.Judge.Need,.bool x.A.Head.Frozen,.list 2 (x.A.Sigs.map eSig),I x.B.Head.Zone,I x.B.Head.Epoch,I x.B.Head.Kind,I x.B.Head.Time,I x.B.Head.Until,I x.B.Head.Count,I x.B.Head.Root,I x.B.Head.Prev,ints x.B.Head.Keys.Lst,I x.B.Head.Keys.Need,ints x.B.Head.Heirs.Lst,I x.B.Head.Heirs.Need,I x.B.Head.Wait,ints x.B.Head.Judge.Lst,I x.B.Head.Judge.Need,.bool x.B.Head.Frozen,.list 2 (x.B.Sigs.map eSig)]) rfl rfl rfl (wr1 (by omega) (by omega)) (mk_ca rfl rfl e7 rfl (rg_of (by omega) (by omega)) (mk_sc rfl rfl rfl (wr1 (by omega) (by omega)) (mk_sc rfl rfl rfl (wr1 (by omega) (by omega)) (mk_ca rfl rfl e8 rfl (rg_of (by omega) (by omega)) (mk_sc (r1:=[I (k),I (k+1),I (k+1+1),I (k+1+1+1),I (k+1+1+1+1),I (k+1+1+1+1+1),I (k+1+1+1+1+1+1),I (k+1+1+1+1+1+1+1),p1,I (k1),p2,I (k2),I (k2+1),p3,I (k3),.bool ((k3+1).tmod 3==0),p4,I (k4),I (k4+1),I (k4+1+1),I (k4+1+1+1),I (k4+1+1+1+1),I (k4+1+1+1+1+1),I (k4+1+1+1+1+1+1),I (k4+1+1+1+1+1+1+1),p5,I (k5),p6,I (k6),I (k6+1),p7,I (k7),.bool ((k7+1).tmod 3==0),p8,I (k8),I x.B.Head.Epoch,I x.B.Head.Kind,I x.B.Head.Time,I x.B.Head.Until,I x.B.Head.Count,I x.B.Head.Root,I x.B.Head.Prev,ints x.B.Head.Keys.Lst,I x.B.Head.Keys.Need,ints x.B.Head.Heirs.Lst,I x.B.Head.Heirs.Need,I x.B.Head.Wait,ints x.B.Head.Judge.Lst,I x.B.Head.Judge.Need,.bool x.B.Head.Frozen,.list 2 (x.B.Sigs.map eSig)]) rfl rfl rfl (wr1 (by omega) (by omega)) (mk_sc rfl rfl rfl (wr1 (by omega) (by omega)) (mk_sc rfl rfl rfl (wr1 (by omega) (by omega)) (mk_sc rfl rfl rfl (wr1 (by omega) (by omega)) (mk_sc rfl rfl rfl (wr1 (by omega) (by omega)) (mk_sc (r1:=[I (k),I (k+1),I (k+1+1),I (k+1+1+1),I (k+1+1+1+1),I (k+1+1+1+1+1),I (k+1+1+1+1+1+1),I (k+1+1+1+1+1+1+1),p1,I (k1),p2,I (k2),I (k2+1),p3,I (k3),.bool ((k3+1).tmod 3==0),p4,I (k4),I (k4+1),I (k4+1+1),I (k4+1+1+1),I (k4+1+1+1+1),I (k4+1+1+1+1+1),I (k4+1+1+1+1+1+1),I (k4+1+1+1+1+1+1+1),p5,I (k5),p6,I (k6),I (k6+1),p7,I (k7),.bool ((k7+1).tmod 3==0),p8,I (k8),I (k8+1),I (k8+1+1),I (k8+1+1+1),I (k8+1+1+1+1),I (k8+1+1+1+1+1),I x.B.Head.Root,I x.B.Head.Prev,ints x.B.Head.Keys.Lst,I x.B.Head.Keys.Need,ints x.B.Head.Heirs.Lst,I x.B.Head.Heirs.Need,I x.B.Head.Wait,ints x.B.Head.Judge.Lst,I x.B.Head.Judge.Need,.bool x.B.Head.Frozen,.list 2 (x.B.Sigs.map eSig)]) rfl rfl rfl (wr1 (by omega) (by omega)) (mk_sc rfl rfl rfl (wr1 (by omega) (by omega)) (mk_sc rfl rfl rfl (wr1 (by omega) (by omega)) (mk_ca rfl rfl e9 rfl (rg_of (by omega) (by omega)) (mk_sc rfl rfl rfl (wr1 (by omega) (by omega)) (mk_ca (r1:=[I (k),I (k+1),I (k+1+1),I (k+1+1+1),I (k+1+1+1+1),I (k+1+1+1+1+1),I (k+1+1+1+1+1+1),I (k+1+1+1+1+1+1+1),p1,I (k1),p2,I (k2),I (k2+1),p3,I (k3),.bool ((k3+1).tmod 3==0),p4,I (k4),I (k4+1),I (k4+1+1),I (k4+1+1+1),I (k4+1+1+1+1),I (k4+1+1+1+1+1),I (k4+1+1+1+1+1+1),I (k4+1+1+1+1+1+1+1),p5,I (k5),p6,I (k6),I (k6+1),p7,I (k7),.bool ((k7+1).tmod 3==0),p8,I (k8),I (k8+1),I (k8+1+1),I (k8+1+1+1),I (k8+1+1+1+1),I (k8+1+1+1+1+1),I (k8+1+1+1+1+1+1),I (k8+1+1+1+1+1+1+1),p9,I (k9),p10,I x.B.Head.Heirs.Need,I x.B.Head.Wait,ints x.B.Head.Judge.Lst,I x.B.Head.Judge.Need,.bool x.B.Head.Frozen,.list 2 (x.B.Sigs.map eSig)]) rfl rfl e10 rfl (rg_of (by omega) (by omega)) (mk_sc rfl rfl rfl (wr1 (by omega) (by omega)) (mk_sc rfl rfl rfl (wr1 (by omega) (by omega)) (mk_ca rfl rfl e11 rfl (rg_of (by omega) (by omega)) (mk_sc rfl rfl rfl (wr1 (by omega) (by omega)) (mk_sc (r1:=[I (k),I (k+1),I (k+1+1),I (k+1+1+1),I (k+1+1+1+1),I (k+1+1+1+1+1),I (k+1+1+1+1+1+1),I (k+1+1+1+1+1+1+1),p1,I (k1),p2,I (k2),I (k2+1),p3,I (k3),.bool ((k3+1).tmod 3==0),p4,I (k4),I (k4+1),I (k4+1+1),I (k4+1+1+1),I (k4+1+1+1+1),I (k4+1+1+1+1+1),I (k4+1+1+1+1+1+1),I (k4+1+1+1+1+1+1+1),p5,I (k5),p6,I (k6),I (k6+1),p7,I (k7),.bool ((k7+1).tmod 3==0),p8,I (k8),I (k8+1),I (k8+1+1),I (k8+1+1+1),I (k8+1+1+1+1),I (k8+1+1+1+1+1),I (k8+1+1+1+1+1+1),I (k8+1+1+1+1+1+1+1),p9,I (k9),p10,I (k10),I (k10+1),p11,I (k11),.bool ((k11+1).tmod 3==0),.list 2 (x.B.Sigs.map eSig)]) rfl rfl rfl (wr1 (by omega) (by omega)) (mk_ca rfl rfl e12 rfl (rg_of (by omega) (by omega)) (rfl))))))))))))))))))))))))))))))))))))))))))))))))))),by omega,by omega,fun rows i K z hr hi hn=>?_⟩
  have f0:=wr1 (k:=k) (by omega) (by omega)
  have f1:=wr1 (k:=k+1) (by omega) (by omega)
  have f2:=wr1 (k:=k+1+1) (by omega) (by omega)
  have f3:=wr1 (k:=k+1+1+1) (by omega) (by omega)
  have f4:=wr1 (k:=k+1+1+1+1) (by omega) (by omega)
  have f5:=wr1 (k:=k+1+1+1+1+1) (by omega) (by omega)
  have f6:=wr1 (k:=k+1+1+1+1+1+1) (by omega) (by omega)
  have f7:=wr1 (k:=k+1+1+1+1+1+1+1) (by omega) (by omega)
  have f9:¬(k1<0):=by omega
  have f10:=wr1 (k:=k1) (by omega) (by omega)
  have f12:¬(k2<0):=by omega
  have f13:=wr1 (k:=k2) (by omega) (by omega)
  have f14:=wr1 (k:=k2+1) (by omega) (by omega)
  have f16:¬(k3<0):=by omega
  have f17:=wr1 (k:=k3) (by omega) (by omega)
  have f18:=wr1 (k:=k3+1) (by omega) (by omega)
  have f20:¬(k4<0):=by omega
  have f21:=wr1 (k:=k4) (by omega) (by omega)
  have f22:=wr1 (k:=k4+1) (by omega) (by omega)
  have f23:=wr1 (k:=k4+1+1) (by omega) (by omega)
  have f24:=wr1 (k:=k4+1+1+1) (by omega) (by omega)
  have f25:=wr1 (k:=k4+1+1+1+1) (by omega) (by omega)
  have f26:=wr1 (k:=k4+1+1+1+1+1) (by omega) (by omega)
  have f27:=wr1 (k:=k4+1+1+1+1+1+1) (by omega) (by omega)
  have f28:=wr1 (k:=k4+1+1+1+1+1+1+1) (by omega) (by omega)
  have f30:¬(k5<0):=by omega
  have f31:=wr1 (k:=k5) (by omega) (by omega)
  have f33:¬(k6<0):=by omega
  have f34:=wr1 (k:=k6) (by omega) (by omega)
  have f35:=wr1 (k:=k6+1) (by omega) (by omega)
  have f37:¬(k7<0):=by omega
  have f38:=wr1 (k:=k7) (by omega) (by omega)
  have f39:=wr1 (k:=k7+1) (by omega) (by omega)
  have f41:¬(k8<0):=by omega
  have f42:=wr1 (k:=k8) (by omega) (by omega)
  have f43:=wr1 (k:=k8+1) (by omega) (by omega)
  have f44:=wr1 (k:=k8+1+1) (by omega) (by omega)
  have f45:=wr1 (k:=k8+1+1+1) (by omega) (by omega)
  have f46:=wr1 (k:=k8+1+1+1+1) (by omega) (by omega)
  have f47:=wr1 (k:=k8+1+1+1+1+1) (by omega) (by omega)
  have f48:=wr1 (k:=k8+1+1+1+1+1+1) (by omega) (by omega)
  have f49:=wr1 (k:=k8+1+1+1+1+1+1+1) (by omega) (by omega)
  have f51:¬(k9<0):=by omega
  have f52:=wr1 (k:=k9) (by omega) (by omega)
  have f54:¬(k10<0):=by omega
  have f55:=wr1 (k:=k10) (by omega) (by omega)
  have f56:=wr1 (k:=k10+1) (by omega) (by omega)
  have f58:¬(k11<0):=by omega
  have f59:=wr1 (k:=k11) (by omega) (by omega)
  have f60:=wr1 (k:=k11+1) (by omega) (by omega)
  have f62:¬(k12<0):=by omega
  have hlt:(i:Int)<(rows.length:Int):=by omega
  simp only [Qjp_r0,heldForkS_a,heldForkS_p0,heldForkS_p1,heldForkS_p2,heldForkS_p3,heldForkS_p4,heldForkS_p5,heldForkS_p6,heldForkS_p7,heldForkS_p8,heldForkS_z,heldForkS_q9,heldForkS_q8,heldForkS_q7,heldForkS_q6,heldForkS_q5,heldForkS_q4,heldForkS_q3,heldForkS_q2,heldForkS_q1,heldForkS_q0,un,cur0,lenP_eq,binP_lss,hlt,decide_true,decide_false,iteP_eq,if_true,elemP_row hr,atP_zero,atP_succ,binP_neq,bne_self_eq_false,Bool.false_eq_true,if_false,binP_add,binP_sneq,Bool.not_true,binP_rem,binP_eql,boolP_neq,f0,f1,f2,f3,f4,f5,f6,f7,g1,f9,f10,g2,f12,f13,f14,g3,f16,f17,f18,g4,f20,f21,f22,f23,f24,f25,f26,f27,f28,g5,f30,f31,g6,f33,f34,f35,g7,f37,f38,f39,g8,f41,f42,f43,f44,f45,f46,f47,f48,f49,g9,f51,f52,g10,f54,f55,f56,g11,f58,f59,f60,g12,f62,wr_succ (show i<1000000000000000000 by omega),true_and,ne_eq,not_false_eq_true]
  simp
 obtain ⟨rows',k',p1,p2,p3,p4,p5⟩:=rows_mark eFork (fun x:GFork=>mFork x) 51 l (hrow True fun _ _ _ _=>True) k h0 (by omega)
 have hle:(l.length:Int)≤1000000000000000:=by omega
 refine ⟨.list 51 rows',k',?_,p3,p4,fun K=>?_⟩
 ·exact mkS_list (by rw [List.length_map];omega) p1
 ·refine (call_of (fun K=>?_) K)
  obtain ⟨rows2,k2,r1,r2,r3,r4,r5⟩:=rows_mark eFork (fun x:GFork=>mFork x) 51 l (hrow (rt [.sc] [(I (-1))] K) fun q6 q7 q8 q9=>rt [.sc] [q7] K) k h0 (by omega)
  have hs:=p1.symm.trans r1
  injection hs with hs;injection hs with hs1 hs2
  subst hs1;subst hs2
  have:=r5 [] (I 0) (K [I k']) (by rw [List.nil_append,p2];omega) fun K2=>by
   simp only [Qjp_r0,heldForkS_a,heldForkS_p0,heldForkS_p1,heldForkS_p2,heldForkS_p3,heldForkS_p4,heldForkS_p5,heldForkS_p6,heldForkS_p7,heldForkS_p8,heldForkS_z,heldForkS_q9,heldForkS_q8,heldForkS_q7,heldForkS_q6,heldForkS_q5,heldForkS_q4,heldForkS_q3,heldForkS_q2,heldForkS_q1,heldForkS_q0,un,cur0,lenP_eq,binP_lss,Int.lt_irrefl,decide_false,iteP_eq,Bool.false_eq_true,if_false,List.nil_append,rt_eq,scs_sc,scs_nil,flat_int,true_and]
  exact this
theorem marks_Known (a:GKnown) (k:Int) (h0:0≤k) (hb:k+40*((mKnown a:Nat):Int)≤1000000000000000):∃c_1 c_2 k',mk_Known (eKnown a) k=some ([c_1,c_2],k')∧k≤k'∧k'≤k+40*((mKnown a:Nat):Int)∧∀K,call Qjq [.agg [c_1,c_2],.one (I k)] K=K [I k']:=by
 simp only [mKnown] at hb ⊢
 obtain ⟨p1,k1,e1,l1,u1,g1⟩:=marks_SignedSS a.Chains (k) (by omega) (by omega)
 obtain ⟨p2,k2,e2,l2,u2,g2⟩:=marks_ForkS a.Forks (k1) (by omega) (by omega)
 refine ⟨p1,p2,k2,?_,by omega,by omega,fun K=>call_of (fun K=>?_) K⟩
 ·exact mkT_of rfl (mk_ca rfl rfl e1 rfl (rg_of (by omega) (by omega)) (mk_ca rfl rfl e2 rfl (rg_of (by omega) (by omega)) (rfl)))
 ·have f1:¬(k1<0):=by omega
  have f2:¬(k2<0):=by omega
  simp only [Qjq,un,cur0,g1,g2,f1,f2,atP_zero,binP_lss,decide_false,iteP_eq,Bool.false_eq_true,if_false,rt_eq,scs_sc,scs_nil,flat_int,true_and]
theorem marks_StoredS (l:List GStored) (k:Int) (h0:0≤k) (hb:k+40*((mStoredS l:Nat):Int)≤1000000000000000):∃p k',mk_StoredS (.list 23 (l.map eStored)) k=some (p,k')∧k≤k'∧k'≤k+40*((mStoredS l:Nat):Int)∧∀K,call Qjr [.one p,.one (I k)] K=K [I k']:=by
 have hm:mStoredS l=l.length+sumN (fun x:GStored=>mStored x) l:=rfl
 rw [hm] at hb ⊢
 have hrow:∀(A:Prop) (B:PV→PV→PV→PV→Prop),∀x∈l,∀k,0≤k→k+40*(1+((fun x:GStored=>mStored x) x:Int))≤1000000000000000→∃r' k',mkRow mk_StoredS_r mtx mk_StoredS_s (eStored x) k=some (r',k')∧k≤k'∧k'≤k+40*(1+((fun x:GStored=>mStored x) x:Int))∧∀(rows:List (List PV)) (i:Nat) K z,rows[i]? = some r'→i<rows.length→rows.length≤1000000000000000→((fun L w=>Qjr_r0 w L A A A A A A A A A A A A B) K [.list 23 rows,I k,z,I i]↔K [.list 23 rows,I k',z,I ((i:Int)+1)]):=by
  intro A B x hx k h0 hb
  have hle:(l.length:Int)≤1000000000000000:=by omega
  clear hle
  try dsimp only at hb ⊢
  simp only [mAnswer,mEntry,mGap,mProof,mStored] at hb ⊢
  obtain ⟨p1,k1,e1,l1,u1,g1⟩:=marks_SignedS x.Answer.Chain (k+1+1) (by omega) (by omega)
  obtain ⟨p2,k2,e2,l2,u2,g2⟩:=marks_StringS x.Answer.Entry.Path (k1+1+1+1+1) (by omega) (by omega)
  obtain ⟨p3,k3,e3,l3,u3,g3⟩:=marks_IntS x.Answer.Proof.Path (k2+1) (by omega) (by omega)
  obtain ⟨p4,k4,e4,l4,u4,g4⟩:=marks_StringS x.Answer.Gap.Before.Path (k3+1+1+1+1) (by omega) (by omega)
  obtain ⟨p5,k5,e5,l5,u5,g5⟩:=marks_StringS x.Answer.Gap.After.Path (k4+1+1+1) (by omega) (by omega)
  obtain ⟨p6,k6,e6,l6,u6,g6⟩:=marks_IntS x.Answer.Gap.Left.Path (k5+1) (by omega) (by omega)
  obtain ⟨p7,k7,e7,l7,u7,g7⟩:=marks_IntS x.Answer.Gap.Right.Path (k6+1) (by omega) (by omega)
  refine ⟨[I (k),.str (mtx (k+1)),p1,.bool ((k1).tmod 3==0),.str (mtx (k1+1)),I (k1+1+1),I (k1+1+1+1),p2,I (k2),p3,I (k3),.str (mtx (k3+1)),I (k3+1+1),I (k3+1+1+1),p4,.str (mtx (k4)),I (k4+1),I (k4+1+1),p5,I (k5),p6,I (k6),p7],k7,mk_sc rfl rfl rfl (wr1 (by omega) (by omega)) (mk_sc rfl rfl rfl (wr1 (by omega) (by omega)) (mk_ca rfl rfl e1 rfl (rg_of (by omega) (by omega)) (mk_sc rfl rfl rfl (wr1 (by omega) (by omega)) (mk_sc (r1:=[I (k),.str (mtx (k+1)),p1,.bool ((k1).tmod 3==0),.str (mtx (k1+1)),I x.Answer.Entry.Kind,I x.Answer.Entry.Value,strs x.Answer.Entry.Path,I x.Answer.Proof.At,ints x.Answer.Proof.Path,I x.Answer.Gap.At,.str x.Answer.Gap.Before.Label,I x.Answer.Gap.Before.Kind,I x.Answer.Gap.Before.Value,strs x.Answer.Gap.Before.Path,.str x.Answer.Gap.After.Label,I x.Answer.Gap.After.Kind,I x.Answer.Gap.After.Value,strs x.Answer.Gap.After.Path,I x.Answer.Gap.Left.At,ints x.Answer.Gap.Left.Path,I x.Answer.Gap.Right.At,ints x.Answer.Gap.Right.Path]) rfl rfl rfl (wr1 (by omega) (by omega)) (mk_sc rfl rfl rfl (wr1 (by omega) (by omega)) (mk_sc rfl rfl rfl (wr1 (by omega) (by omega)) (mk_ca rfl rfl e2 rfl (rg_of (by omega) (by omega)) (mk_sc rfl rfl rfl (wr1 (by omega) (by omega)) (mk_ca (r1:=[I (k),.str (mtx (k+1)),p1,.bool ((k1).tmod 3==0),.str (mtx (k1+1)),I (k1+1+1),I (k1+1+1+1),p2,I (k2),p3,I x.Answer.Gap.At,.str x.Answer.Gap.Before.Label,I x.Answer.Gap.Before.Kind,I x.Answer.Gap.Before.Value,strs x.Answer.Gap.Before.Path,.str x.Answer.Gap.After.Label,I x.Answer.Gap.After.Kind,I x.Answer.Gap.After.Value,strs x.Answer.Gap.After.Path,I x.Answer.Gap.Left.At,ints x.Answer.Gap.Left.Path,I x.Answer.Gap.Right.At,ints x.Answer.Gap.Right.Path]) rfl rfl e3 rfl (rg_of (by omega) (by omega)) (mk_sc rfl rfl rfl (wr1 (by omega) (by omega)) (mk_sc rfl rfl rfl (wr1 (by omega) (by omega)) (mk_sc rfl rfl rfl (wr1 (by omega) (by omega)) (mk_sc rfl rfl rfl (wr1 (by omega) (by omega)) (mk_ca (r1:=[I (k),.str (mtx (k+1)),p1,.bool ((k1).tmod 3==0),.str (mtx (k1+1)),I (k1+1+1),I (k1+1+1+1),p2,I (k2),p3,I (k3),.str (mtx (k3+1)),I (k3+1+1),I (k3+1+1+1),p4,.str x.Answer.Gap.After.Label,I x.Answer.Gap.After.Kind,I x.Answer.Gap.After.Value,strs x.Answer.Gap.After.Path,I x.Answer.Gap.Left.At,ints x.Answer.Gap.Left.Path,I x.Answer.Gap.Right.At,ints x.Answer.Gap.Right.Path]) rfl rfl e4 rfl (rg_of (by omega) (by omega)) (mk_sc rfl rfl rfl (wr1 (by omega) (by omega)) (mk_sc rfl rfl rfl (wr1 (by omega) (by omega)) (mk_sc rfl rfl rfl (wr1 (by omega) (by omega)) (mk_ca rfl rfl e5 rfl (rg_of (by omega) (by omega)) (mk_sc (r1:=[I (k),.str (mtx (k+1)),p1,.bool ((k1).tmod 3==0),.str (mtx (k1+1)),I (k1+1+1),I (k1+1+1+1),p2,I (k2),p3,I (k3),.str (mtx (k3+1)),I (k3+1+1),I (k3+1+1+1),p4,.str (mtx (k4)),I (k4+1),I (k4+1+1),p5,I (k5),ints x.Answer.Gap.Left.Path,I x.Answer.Gap.Right.At,ints x.Answer.Gap.Right.Path]) rfl rfl rfl (wr1 (by omega) (by omega)) (mk_ca rfl rfl e6 rfl (rg_of (by omega) (by omega)) (mk_sc rfl rfl rfl (wr1 (by omega) (by omega)) (mk_ca rfl rfl e7 rfl (rg_of (by omega) (by omega)) (rfl))))))))))))))))))))))),by omega,by omega,fun rows i K z hr hi hn=>?_⟩
  have f0:=wr1 (k:=k) (by omega) (by omega)
  have f1:=wr1 (k:=k+1) (by omega) (by omega)
  have f2:=laws_markText_n (k+1) (rg_of (by omega) (by omega))
  have f4:¬(k1<0):=by omega
  have f5:=wr1 (k:=k1) (by omega) (by omega)
  have f6:=wr1 (k:=k1+1) (by omega) (by omega)
  have f7:=laws_markText_n (k1+1) (rg_of (by omega) (by omega))
  have f8:=wr1 (k:=k1+1+1) (by omega) (by omega)
  have f9:=wr1 (k:=k1+1+1+1) (by omega) (by omega)
  have f11:¬(k2<0):=by omega
  have f12:=wr1 (k:=k2) (by omega) (by omega)
  have f14:¬(k3<0):=by omega
  have f15:=wr1 (k:=k3) (by omega) (by omega)
  have f16:=wr1 (k:=k3+1) (by omega) (by omega)
  have f17:=laws_markText_n (k3+1) (rg_of (by omega) (by omega))
  have f18:=wr1 (k:=k3+1+1) (by omega) (by omega)
  have f19:=wr1 (k:=k3+1+1+1) (by omega) (by omega)
  have f21:¬(k4<0):=by omega
  have f22:=wr1 (k:=k4) (by omega) (by omega)
  have f23:=laws_markText_n (k4) (rg_of (by omega) (by omega))
  have f24:=wr1 (k:=k4+1) (by omega) (by omega)
  have f25:=wr1 (k:=k4+1+1) (by omega) (by omega)
  have f27:¬(k5<0):=by omega
  have f28:=wr1 (k:=k5) (by omega) (by omega)
  have f30:¬(k6<0):=by omega
  have f31:=wr1 (k:=k6) (by omega) (by omega)
  have f33:¬(k7<0):=by omega
  have hlt:(i:Int)<(rows.length:Int):=by omega
  simp only [Qjr_r0,un,cur0,lenP_eq,binP_lss,hlt,decide_true,decide_false,iteP_eq,if_true,elemP_row hr,atP_zero,atP_succ,binP_neq,bne_self_eq_false,Bool.false_eq_true,if_false,binP_add,binP_sneq,Bool.not_true,binP_rem,binP_eql,boolP_neq,f0,f1,f2,g1,f4,f5,f6,f7,f8,f9,g2,f11,f12,g3,f14,f15,f16,f17,f18,f19,g4,f21,f22,f23,f24,f25,g5,f27,f28,g6,f30,f31,g7,f33,wr_succ (show i<1000000000000000000 by omega),true_and,ne_eq,not_false_eq_true]
  simp
 obtain ⟨rows',k',p1,p2,p3,p4,p5⟩:=rows_mark eStored (fun x:GStored=>mStored x) 23 l (hrow True fun _ _ _ _=>True) k h0 (by omega)
 have hle:(l.length:Int)≤1000000000000000:=by omega
 refine ⟨.list 23 rows',k',?_,p3,p4,fun K=>?_⟩
 ·exact mkS_list (by rw [List.length_map];omega) p1
 ·refine (call_of (fun K=>?_) K)
  obtain ⟨rows2,k2,r1,r2,r3,r4,r5⟩:=rows_mark eStored (fun x:GStored=>mStored x) 23 l (hrow (rt [.sc] [(I (-1))] K) fun q6 q7 q8 q9=>rt [.sc] [q7] K) k h0 (by omega)
  have hs:=p1.symm.trans r1
  injection hs with hs;injection hs with hs1 hs2
  subst hs1;subst hs2
  have:=r5 [] (I 0) (K [I k']) (by rw [List.nil_append,p2];omega) fun K2=>by
   simp only [Qjr_r0,un,cur0,lenP_eq,binP_lss,Int.lt_irrefl,decide_false,iteP_eq,Bool.false_eq_true,if_false,List.nil_append,rt_eq,scs_sc,scs_nil,flat_int,true_and]
  exact this
theorem marks_Cache (a:GCache) (k:Int) (h0:0≤k) (hb:k+40*((mCache a:Nat):Int)≤1000000000000000):∃c_1 k',mk_Cache (eCache a) k=some ([c_1],k')∧k≤k'∧k'≤k+40*((mCache a:Nat):Int)∧∀K,call Qjs [.agg [c_1],.one (I k)] K=K [I k']:=by
 simp only [mCache] at hb ⊢
 obtain ⟨p1,k1,e1,l1,u1,g1⟩:=marks_StoredS a.Lst (k) (by omega) (by omega)
 refine ⟨p1,k1,?_,by omega,by omega,fun K=>call_of (fun K=>?_) K⟩
 ·exact mkT_of rfl (mk_ca rfl rfl e1 rfl (rg_of (by omega) (by omega)) (rfl))
 ·have f1:¬(k1<0):=by omega
  simp only [Qjs,un,cur0,g1,f1,atP_zero,binP_lss,decide_false,iteP_eq,Bool.false_eq_true,if_false,rt_eq,scs_sc,scs_nil,flat_int,true_and]
theorem marks_World (a:GWorld) (k:Int) (h0:0≤k) (hb:k+40*((mWorld a:Nat):Int)≤1000000000000000):∃c_1 c_2 c_3 c_4 c_5_1 c_5_2 c_6_1 k',mk_World (eWorld a) k=some ([I a.Now,c_1,c_2,c_3,c_4,c_5_1,c_5_2,c_6_1],k')∧k≤k'∧k'≤k+40*((mWorld a:Nat):Int)∧∀K,call Qjt [.agg [I a.Now,c_1,c_2,c_3,c_4,c_5_1,c_5_2,c_6_1],.one (I k)] K=K [I k']:=by
 simp only [mWorld] at hb ⊢
 obtain ⟨p1,k1,e1,l1,u1,g1⟩:=marks_ActorS a.Actors (k) (by omega) (by omega)
 obtain ⟨p2,k2,e2,l2,u2,g2⟩:=marks_ZoneS a.Zones (k1) (by omega) (by omega)
 obtain ⟨p3,k3,e3,l3,u3,g3⟩:=marks_SaidS a.Said (k2) (by omega) (by omega)
 obtain ⟨p4,k4,e4,l4,u4,g4⟩:=marks_ServerS a.Servers (k3) (by omega) (by omega)
 obtain ⟨p5_1,p5_2,k5,e5,l5,u5,g5⟩:=marks_Known a.Known (k4) (by omega) (by omega)
 obtain ⟨p6_1,k6,e6,l6,u6,g6⟩:=marks_Cache a.Cache (k5) (by omega) (by omega)
 refine ⟨p1,p2,p3,p4,p5_1,p5_2,p6_1,k6,?_,by omega,by omega,fun K=>call_of (fun K=>?_) K⟩
 ·exact mkT_of rfl (mk_ca rfl rfl e1 rfl (rg_of (by omega) (by omega)) (mk_ca rfl rfl e2 rfl (rg_of (by omega) (by omega)) (mk_ca rfl rfl e3 rfl (rg_of (by omega) (by omega)) (mk_ca rfl rfl e4 rfl (rg_of (by omega) (by omega)) (mk_ct (Nat.le_of_ble_eq_true rfl) rfl rfl e5 rfl (rg_of (by omega) (by omega)) (mk_ct (Nat.le_of_ble_eq_true rfl) rfl rfl e6 rfl (rg_of (by omega) (by omega)) (rfl)))))))
 ·have f1:¬(k1<0):=by omega
  have f2:¬(k2<0):=by omega
  have f3:¬(k3<0):=by omega
  have f4:¬(k4<0):=by omega
  have f5:¬(k5<0):=by omega
  have f6:¬(k6<0):=by omega
  simp only [Qjt,un,cur0,g1,g2,g3,g4,g5,g6,f1,f2,f3,f4,f5,f6,atP_zero,binP_lss,decide_false,iteP_eq,Bool.false_eq_true,if_false,rt_eq,scs_sc,scs_nil,flat_int,true_and]
theorem marks_Zone (a:GZone) (k:Int) (h0:0≤k) (hb:k+40*((mZone a:Nat):Int)≤1000000000000000):∃c_1 c_2 k',mk_Zone (eZone a) k=some ([c_1,c_2],k')∧k≤k'∧k'≤k+40*((mZone a:Nat):Int)∧True:=by
 simp only [mZone] at hb ⊢
 obtain ⟨p1,k1,e1,l1,u1,g1⟩:=marks_SignedS a.Chain (k) (by omega) (by omega)
 obtain ⟨p2,k2,e2,l2,u2,g2⟩:=marks_EntryS a.Entries (k1) (by omega) (by omega)
 refine ⟨p1,p2,k2,?_,by omega,by omega,trivial⟩
 ·exact mkT_of rfl (mk_ca rfl rfl e1 rfl (rg_of (by omega) (by omega)) (mk_ca rfl rfl e2 rfl (rg_of (by omega) (by omega)) (rfl)))
end Go.Ev
