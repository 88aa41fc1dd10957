/- What each function hands back, in plain Lean, and that the laws answer true, part 2. -/
import Derived.Test.YtmhmcamcenidaaaGreatHum1
set_option linter.unusedVariables false
set_option linter.unusedSimpArgs false
set_option maxRecDepth 4000
namespace Go.Ev
open Go.Proofs
theorem flatRows_map {α:Type} {sz:Nat} {l:List α} {f:α→List PV} (h:∀x∈l,∀p∈f x,p.flat=true):flatRows (.list sz (l.map f)):=by
 intro r hr p hp
 obtain ⟨x,hx,rfl⟩:=List.mem_map.1 hr
 exact h x hx p hp
theorem Clone_int_n (l:List Int) (h:l.length≤1048576) (k):call Qeq [.one (ints l)] k=k [ints l]:=call_of (fun k=>by
 have hf:flatRows (ints l):=flatRows_map fun x _ p hp=>by simp [rI] at hp;subst hp;rfl
 have hb:0+(l.map rI).length<1073741824:=by rw [List.length_map];omega
 simp only [Qeq,nilP,iteP_eq,Bool.false_eq_true,if_false,if_true,catP_eq,hf,List.length_nil,hb,List.nil_append,rt_eq,scs_own,scs_nil,true_and,Nat.zero_le]
 refine ⟨fun q=>q.1,fun q=>⟨q,fun e=>?_⟩⟩
 simp only [Bool.not_false,if_true]
 have e2:=congrArg (PV.list 1) e
 rw [←e2];exact q) k
theorem Clone_string_n (l:List ByteArray) (h:l.length≤1048576) (k):call Qex [.one (strs l)] k=k [strs l]:=call_of (fun k=>by
 have hf:flatRows (strs l):=flatRows_map fun x _ p hp=>by simp [rS] at hp;subst hp;rfl
 have hb:0+(l.map rS).length<1073741824:=by rw [List.length_map];omega
 simp only [Qex,nilP,iteP_eq,Bool.false_eq_true,if_false,if_true,catP_eq,hf,List.length_nil,hb,List.nil_append,rt_eq,scs_own,scs_nil,true_and,Nat.zero_le]
 refine ⟨fun q=>q.1,fun q=>⟨q,fun e=>?_⟩⟩
 simp only [Bool.not_false,if_true]
 have e2:=congrArg (PV.list 1) e
 rw [←e2];exact q) k
theorem Clone_Sig_n (l:List GSig) (h:l.length≤1048576) (k):call Qeu [.one (.list 2 (l.map eSig))] k=k [.list 2 (l.map eSig)]:=call_of (fun k=>by
 have hf:flatRows (.list 2 (l.map eSig)):=flatRows_map fun x _ p hp=>by simp [eSig] at hp;rcases hp with rfl | rfl<;>rfl
 have hb:0+(l.map eSig).length<1073741824:=by rw [List.length_map];omega
 simp only [Qeu,nilP,iteP_eq,Bool.false_eq_true,if_false,if_true,catP_eq,hf,List.length_nil,hb,List.nil_append,rt_eq,scs_own,scs_nil,true_and,Nat.zero_le]
 refine ⟨fun q=>q.1,fun q=>⟨q,fun e=>?_⟩⟩
 simp only [Bool.not_false,if_true]
 have e2:=congrArg (PV.list 2) e
 rw [←e2];exact q) k
theorem catP_nil {sz:Nat} {rows:List (List PV)} (h:rows.length≤1048576) (k:PV→Prop):catP sz (.list sz rows) (.list sz []) k=k (.list sz rows):=by
 rw [catP_eq];simp;omega
theorem Qes_n (a:GKeys) (h:mKeys a≤1048576) (k):call Qes [.agg (eKeys a)] k=k (eKeys a):=call_of (fun k=>by
 have e:=Clone_int_n a.Lst h
 simp [Qes,e]) k
theorem Qcg_n (a:GKeys) (h:mKeys a≤1048576) (k):call Qcg [.agg (eKeys a)] k=k (eKeys a):=call_of (fun k=>by
 have h':(a.Lst.map rI).length≤1048576:=by rw [List.length_map];exact h
 simp only [Qcg,un,cur0,catP_nil h',rt_eq,scs_pv,scs_sc,scs_nil,flat_int,true_and]) k
theorem Qet_n (a:GHead) (h:mHead a≤1048576) (k):call Qet [.agg (eHead a)] k=k (eHead a):=call_of (fun k=>by
 unfold mHead at h
 simp [Qet,Qes_n a.Keys (by omega),Qes_n a.Heirs (by omega),Qes_n a.Judge (by omega)]) k
theorem Qch_n (a:GHead) (h:mHead a≤1048576) (k):call Qch [.agg (eHead a)] k=k (eHead a):=call_of (fun k=>by
 unfold mHead at h
 simp [Qch,Qcg_n a.Keys (by omega),Qcg_n a.Heirs (by omega),Qcg_n a.Judge (by omega)]) k
theorem Qev_n (a:GSigned) (h:mSigned a≤1048576) (k):call Qev [.agg (eSigned a)] k=k (eSigned a):=call_of (fun k=>by
 unfold mSigned at h
 simp [Qev,Qet_n a.Head (by omega),Clone_Sig_n a.Sigs (by omega)]) k
theorem Qci_n (a:GSigned) (h:mSigned a≤1048576) (k):call Qci [.agg (eSigned a)] k=k (eSigned a):=call_of (fun k=>by
 unfold mSigned at h
 have h':(a.Sigs.map eSig).length≤1048576:=by rw [List.length_map];omega
 simp only [Qci,un,cur0,Qch_n a.Head (by omega),catP_nil h']
 simp) k
theorem chain_le7 {l:List GSigned} (h:mSignedS l≤1048576):l.length≤1048576∧∀x∈l,mSigned x≤1048576:=by
 unfold mSignedS at h
 refine ⟨by omega,fun x hx=>?_⟩
 have:=sumN_mem (s:=mSigned) hx
 omega
theorem Qew_n (l:List GSigned) (h:mSignedS l≤1048576) (k):call Qew [.one (.list 17 (l.map eSigned))] k=k [.list 17 (l.map eSigned)]:=call_of (fun k=>by
 obtain ⟨hl,hx0⟩:=chain_le7 h
 simp only [Qew,lenP_eq,List.length_map,true_and,show (0:Nat)≤16777216 by omega]
 refine lp_list l (fun i=>[.list 17 (l.map eSigned),I l.length,I i,.list 17 [],.list 17 ((l.take i).map eSigned)]) (by simp) (fun i x hx hi K=>?_) fun K=>?_
 ·have e:=Qev_n x (hx0 x (List.mem_of_getElem? hx))
  rw [take_snoc hx,List.map_append]
  have hb:((l.take i).map eSigned).length+1<1073741824:=by simp;omega
  simp [-getElem?_pos,Qew_r0,hx,hi,e,wr_succ (show i<1000000000000000000 by omega)]
  omega
 ·simp [Qew_r0]) k
theorem Qcj_n (l:List GSigned) (h:mSignedS l≤1048576) (k):call Qcj [.one (.list 17 (l.map eSigned))] k=k [.list 17 (l.map eSigned)]:=call_of (fun k=>by
 obtain ⟨hl,hx0⟩:=chain_le7 h
 simp only [Qcj,true_and,show (0:Nat)≤16777216 by omega]
 refine lp_list l (fun i=>[.list 17 (l.map eSigned),I i,.list 17 [],.list 17 ((l.take i).map eSigned)]) (by simp) (fun i x hx hi K=>?_) fun K=>?_
 ·have e:=Qci_n x (hx0 x (List.mem_of_getElem? hx))
  rw [take_snoc hx,List.map_append]
  simp [-getElem?_pos,Qcj_r0,hx,hi,e,wr_succ (show i<1000000000000000000 by omega)]
  omega
 ·simp [Qcj_r0]) k
theorem Qey_n (a:GEntry) (h:mEntry a≤1048576) (k):call Qey [.agg (eEntry a)] k=k (eEntry a):=call_of (fun k=>by
 unfold mEntry at h
 simp [Qey,Clone_string_n a.Path (by omega)]) k
theorem Qcm_n (l:List ByteArray) (h:l.length≤1048576) (k):call Qcm [.one (strs l)] k=k [strs l]:=call_of (fun k=>by
 have hf:flatRows (strs l):=flatRows_map fun x _ p hp=>by simp [rS] at hp;subst hp;rfl
 have hb:0+(l.map rS).length<1073741824:=by rw [List.length_map];omega
 simp only [Qcm,catP_eq,hf,List.length_nil,hb,List.nil_append,rt_eq,scs_own,scs_pv,scs_nil,true_and,Nat.zero_le]) k
theorem Qcn_n (a:GEntry) (h:mEntry a≤1048576) (k):call Qcn [.agg (eEntry a)] k=k (eEntry a):=call_of (fun k=>by
 unfold mEntry at h
 simp [Qcn,Qcm_n a.Path (by omega)]) k
def inR (n a b:Int):Bool:=decide (a≤n)&&decide (n≤b)
theorem Qfl_n (n a b:Int) (k):call Qfl [.one (I n),.one (I a),.one (I b)] k=k [.bool (inR n a b)]:=call_of (fun k=>by
 simp [Qfl,inR];split<;>simp [*]) k
theorem Qcw_n (n a b:Int) (k):call Qcw [.one (I n),.one (I a),.one (I b)] k=k [.bool (inR n a b)]:=call_of (fun k=>by
 simp [Qcw,inR];split<;>simp [*]) k
theorem mem_get {α:Type} {l:List α} {i:Nat} {x:α} (h:l[i]? = some x):x∈l:=List.mem_of_getElem? h
theorem wr_pred {i:Nat} (h0:0<i) (h:i<1000000000000000000):IntKind.i64.wrap ((i:Int)-1)=((i-1:Nat):Int):=by
 rw [wr_eq (by omega) (by omega)];omega
theorem getD_get {α:Type} {l:List α} {i:Nat} (d:α) (h:i<l.length):l[i]? = some (l.getD i d):=by
 rw [List.getD_eq_getElem?_getD,List.getElem?_eq_getElem h];rfl
def at0 (l:List Int) (i:Nat):Int:=l.getD i 0
theorem at0_get {l:List Int} {i:Nat} (h:i<l.length):l[i]? = some (at0 l i):=getD_get 0 h
def ascP (l:List Int) (i:Nat) (x:Int):Bool:=decide (0<i)&&decide (x≤at0 l (i-1))
def sAsc (l:List Int):Bool:=!anyI (ascP l) 0 l
theorem Qfo_n (l:List Int) (h:l.length<1073741824) (k):call Qfo [.one (ints l)] k=k [.bool (sAsc l)]:=call_of (fun k=>by
 simp [Qfo]
 have:=lp_anyIk (R:=fun L w=>Qfo_r0 w L (k [.bool false]) fun q8 q9 q10 q11=>k [.bool true]) k false l (fun i=>[ints l,.bool false,I l.length,I i]) (ascP l) rfl (fun i x hx hi K=>?_) fun K=>?_
 ·simpa [sAsc] using this
 ·by_cases h0:0<i
  ·have hp:=at0_get (l:=l) (show i-1<l.length by omega)
   simp [-getElem?_pos,Qfo_r0,hx,hi,h0,wr_pred h0 (show i<1000000000000000000 by omega),hp,wr_succ (show i<1000000000000000000 by omega),ascP]
  ·have h1:i=0:=by omega
   subst h1
   simp [-getElem?_pos,Qfo_r0,hi,ascP,wr_eq]
 ·simp [Qfo_r0]) k
def isKeyB (x:Int):Bool:=inR x 1 99
theorem Qfp_n (x:Int) (k):call Qfp [.one (I x)] k=k [.bool (isKeyB x)]:=call_of (fun k=>by simp [Qfp,Qfl_n,isKeyB]) k
def sIsKeys (a:GKeys):Bool:=inR a.Lst.length 1 4&&!(a.Lst.any (fun x=>!isKeyB x)||!sAsc a.Lst)&&inR a.Need 1 a.Lst.length
theorem Qcx_n (a:GKeys) (h:mKeys a≤1048576) (k):call Qcx [.agg [ints a.Lst,I a.Need]] k=k [.bool (sIsKeys a)]:=call_of (fun k=>by
 unfold mKeys at h
 simp [Qcx]
 refine (lp_anyI (P:=k [.bool false]) (fin:=k [.bool (inR a.Lst.length 1 4&&inR a.Need 1 a.Lst.length)]) a.Lst (fun j=>[.bool false,I j,ints a.Lst,I a.Need]) (fun j y=>!isKeyB y||ascP a.Lst j y) rfl (fun j y hy hj K=>?_) fun K=>?_).trans ?_
 ·by_cases h0:0<j
  ·have hp:=at0_get (l:=a.Lst) (show j-1<a.Lst.length by omega)
   simp [-getElem?_pos,Qcx_r0,hy,hj,h0,Qcw_n,wr_pred h0 (show j<1000000000000000000 by omega),hp,wr_succ (show j<1000000000000000000 by omega),ascP,isKeyB]
   cases inR y 1 99<;>simp
  ·have h1:j=0:=by omega
   subst h1
   simp [-getElem?_pos,Qcx_r0,hy,hj,ascP,Qcw_n,isKeyB,wr_eq]
 ·simp [Qcx_r0,Qcw_n]
  cases inR (a.Lst.length:Int) 1 4<;>simp
 ·rw [anyI_or,anyI_const]
  unfold sIsKeys sAsc
  generalize a.Lst.any (fun x=>!isKeyB x)=b1
  generalize anyI (ascP a.Lst) 0 a.Lst=b2
  cases b1<;>cases b2<;>simp) k
theorem asc_mono {l:List Int} (h:sAsc l=true):∀{j i:Nat} {x y:Int},i<j→l[i]? = some x→l[j]? = some y→x<y:=by
 have h1:anyI (ascP l) 0 l=false:=by unfold sAsc at h;simpa using h
 rw [anyI_false] at h1
 have step:∀{j:Nat} {x y:Int},l[j]? = some x→l[j+1]? = some y→x<y:=by
  intro j x y hx hy
  have:=h1 (j+1) y hy
  simp [ascP] at this
  have h2:at0 l j=x:=by
   have:=at0_get (lt_of_get hx)
   rw [hx] at this;injection this with this;exact this.symm
  rw [h2] at this
  omega
 intro j
 induction j with
 | zero=>intro i x y hij;omega
 | succ j ih =>
  intro i x y hij hx hy
  have hj:j<l.length:=by have:=lt_of_get hy;omega
  have hz:=List.getElem?_eq_getElem hj
  by_cases h2:i=j
  ·subst h2;exact step hx hy
  ·have a1:=ih (i:=i) (by omega) hx hz
   have a2:=step hz hy
   omega
theorem asc_range {l:List Int} (h:sAsc l=true) {x y:Int} (hx:l[0]? = some x) (hy:l[l.length-1]? = some y):(l.any fun z=>!isKeyB z)=(!(isKeyB x&&isKeyB y)):=by
 have hlast:∀{z:Int} {i:Nat},l[i]? = some z→x≤z∧z≤y:=by
  intro z i hz
  have hi:=lt_of_get hz
  constructor
  ·by_cases h0:i=0
   ·subst h0;rw [hx] at hz;injection hz with hz;omega
   ·have:=asc_mono h (show 0<i by omega) hx hz;omega
  ·by_cases h0:i=l.length-1
   ·subst h0;rw [hy] at hz;injection hz with hz;omega
   ·have:=asc_mono h (show i<l.length-1 by omega) hz hy;omega
 cases hb:(isKeyB x&&isKeyB y) with
 | true =>
  simp only [Bool.and_eq_true,isKeyB,inR,decide_eq_true_eq] at hb
  rw [Bool.not_true,List.any_eq_false]
  intro z hz
  obtain ⟨i,hi⟩:=List.mem_iff_getElem?.1 hz
  have:=hlast hi
  simp [isKeyB,inR];omega
 | false =>
  rw [Bool.not_false,List.any_eq_true]
  by_cases hk:isKeyB x=true
  ·have hk2:isKeyB y=false:=by rw [hk] at hb;simpa using hb
   exact ⟨y,List.mem_of_getElem? hy,by simp [hk2]⟩
  ·exact ⟨x,List.mem_of_getElem? hx,by simpa using hk⟩
theorem Qfq_n (a:GKeys) (h:mKeys a≤1048576) (k):call Qfq [.agg [ints a.Lst,I a.Need]] k=k [.bool (sIsKeys a)]:=call_of (fun k=>by
 unfold mKeys at h
 simp [Qfq,Qfl_n,sIsKeys]
 cases h1:inR a.Lst.length 1 4 with
 | false=>simp
 | true =>
  have h2:1≤a.Lst.length:=by unfold inR at h1;simp at h1;omega
  simp [Qfo_n a.Lst (by omega)]
  cases h3:sAsc a.Lst with
  | false=>simp
  | true =>
   have hx:=at0_get (l:=a.Lst) (show 0<a.Lst.length by omega)
   have hy:=at0_get (l:=a.Lst) (show a.Lst.length-1<a.Lst.length by omega)
   have hr:=asc_range h3 hx hy
   rw [hr]
   simp [-getElem?_pos,hx,hy,Qfp_n,wr_pred (show 0<a.Lst.length by omega) (show a.Lst.length<1000000000000000000 by omega)]
   cases isKeyB (at0 a.Lst 0)<;>cases isKeyB (at0 a.Lst (a.Lst.length-1))<;>simp) k
deriving instance DecidableEq for GKeys,GHead,GSig,GSigned,GFork,GEntry,GProof,GGap,GAnswer,GZone,GKnown,GServer,GActor,GSaid,GStored,GCache,GWorld
theorem Qgz_n (l:List GSigned) (p:GSigned) (h:l.length≤1048576) (hp:l[l.length-1]? = some p) (k):call Qgz [.one (.list 17 (l.map eSigned))] k=k (eHead p.Head):=call_of (fun k=>by
 have h0:=lt_of_get hp
 simp [-getElem?_pos,Qgz,wr_pred (show 0<l.length by omega) (show l.length<1000000000000000000 by omega),hp]) k
theorem zone_le {z:GZone} (h:mZone z≤1048576):mSignedS z.Chain≤1048576∧mEntryS z.Entries≤1048576:=by unfold mZone at h;omega
theorem entries_le {l:List GEntry} (h:mEntryS l≤1048576):l.length≤1048576∧∀x∈l,mEntry x≤1048576:=by
 unfold mEntryS at h
 refine ⟨by omega,fun x hx=>?_⟩
 have:=sumN_mem (s:=mEntry) hx
 omega
theorem Qcs_n (l:List GEntry) (h:mEntryS l≤1048576) (k):call Qcs [.one (.list 4 (l.map eEntry))] k=k [.list 4 (l.map eEntry)]:=call_of (fun k=>by
 unfold mEntryS at h
 simp [Qcs]
 refine lp_list l (fun i=>[.list 4 (l.map eEntry),I i,.list 4 [],.list 4 ((l.take i).map eEntry)]) rfl (fun i x hx hi K=>?_) fun K=>?_
 ·have s:=sumN_mem (s:=mEntry) (mem_get hx)
  have e:=Qcn_n x (by omega)
  simp [-getElem?_pos,Qcs_r0,hx,hi,e,catP,take_snoc hx,show min i l.length<1073741823 by omega,show i<1073741823 by omega,wr_succ (show i<1000000000000000000 by omega)]
  try (intros;omega)
 ·simp [Qcs_r0]) k
theorem Qct_n (z:GZone) (h:mZone z≤1048576) (k):call Qct [.agg (eZone z)] k=k (eZone z):=call_of (fun k=>by
 unfold mZone at h
 simp [Qct,Qcj_n z.Chain (by omega),Qcs_n z.Entries (by omega)]) k
theorem Qez_n (l:List GEntry) (h:mEntryS l≤1048576) (k):call Qez [.one (.list 4 (l.map eEntry))] k=k [.list 4 (l.map eEntry)]:=call_of (fun k=>by
 obtain ⟨hl,hx0⟩:=entries_le h
 simp only [Qez,lenP_eq,List.length_map,true_and,show (0:Nat)≤16777216 by omega]
 refine lp_list l (fun i=>[.list 4 (l.map eEntry),I l.length,I i,.list 4 [],.list 4 ((l.take i).map eEntry)]) (by simp) (fun i x hx hi K=>?_) fun K=>?_
 ·have e:=Qey_n x (hx0 x (List.mem_of_getElem? hx))
  rw [take_snoc hx,List.map_append]
  simp [-getElem?_pos,Qez_r0,hx,hi,e,wr_succ (show i<1000000000000000000 by omega)]
  omega
 ·simp [Qez_r0]) k
theorem Qfa_n (z:GZone) (h:mZone z≤1048576) (k):call Qfa [.agg (eZone z)] k=k (eZone z):=call_of (fun k=>by
 obtain ⟨h1,h2⟩:=zone_le h
 simp [Qfa,Qew_n z.Chain h1,Qez_n z.Entries h2]) k
theorem Qff_n (a:GProof) (h:mProof a≤1048576) (k):call Qff [.agg (eProof a)] k=k (eProof a):=call_of (fun k=>by
 unfold mProof at h
 simp [Qff,Clone_int_n a.Path h]) k
theorem Qco_n (a:GProof) (h:mProof a≤1048576) (k):call Qco [.agg (eProof a)] k=k (eProof a):=call_of (fun k=>by
 unfold mProof at h
 have h':(a.Path.map rI).length≤1048576:=by rw [List.length_map];exact h
 simp only [Qco,un,cur0,catP_nil h',rt_eq,scs_pv,scs_sc,scs_nil,flat_int,true_and]) k
theorem Qfg_n (a:GGap) (h:mGap a≤1048576) (k):call Qfg [.agg (eGap a)] k=k (eGap a):=call_of (fun k=>by
 unfold mGap at h
 simp [Qfg,Qey_n a.Before (by omega),Qey_n a.After (by omega),Qff_n a.Left (by omega),Qff_n a.Right (by omega)]) k
theorem Qcp_n (a:GGap) (h:mGap a≤1048576) (k):call Qcp [.agg (eGap a)] k=k (eGap a):=call_of (fun k=>by
 unfold mGap at h
 simp [Qcp,Qcn_n a.Before (by omega),Qcn_n a.After (by omega),Qco_n a.Left (by omega),Qco_n a.Right (by omega)]) k
theorem Qfh_n (a:GAnswer) (h:mAnswer a≤1048576) (k):call Qfh [.agg (eAnswer a)] k=k (eAnswer a):=call_of (fun k=>by
 unfold mAnswer at h
 simp [Qfh,Qew_n a.Chain (by omega),Qey_n a.Entry (by omega),Qff_n a.Proof (by omega),Qfg_n a.Gap (by omega)]) k
theorem Qcq_n (a:GAnswer) (h:mAnswer a≤1048576) (k):call Qcq [.agg (eAnswer a)] k=k (eAnswer a):=call_of (fun k=>by
 unfold mAnswer at h
 simp [Qcq,Qcj_n a.Chain (by omega),Qcn_n a.Entry (by omega),Qco_n a.Proof (by omega),Qcp_n a.Gap (by omega)]) k
def sMod (n m:Int):Int:=if inR m 1 1000000000000=true then (wr (n.tmod m+m)).tmod m else 0
theorem Qfw_n (n m:Int) (k):call Qfw [.one (I n),.one (I m)] k=k [I (sMod n m)]:=call_of (fun k=>by
 simp [Qfw,sMod,Qfl_n]
 cases h:inR m 1 1000000000000
 ·simp
 ·have:m≠0:=by simp [inR] at h;omega
  simp [this]) k
theorem Qdb_n (n m:Int) (k):call Qdb [.one (I n),.one (I m)] k=k [I (sMod n m)]:=call_of (fun k=>by
 simp [Qdb,sMod,Qcw_n]
 cases h:inR m 1 1000000000000
 ·simp
 ·have:m≠0:=by simp [inR] at h;omega
  simp [this]) k
def hashStep (acc v:Int):Int:=(wr (wr (wr (acc*1000003)+sMod v 2147483647)+13)).tmod 2147483647
def sHash (l:List Int):Int:=l.foldl hashStep 11
theorem Qfx_n (l:List Int) (hl:l.length<1000000000000000000) (k):call Qfx [.one (ints l)] k=k [I (sHash l)]:=call_of (fun k=>by
 simp [Qfx]
 refine lp_list l (fun i=>[I 0,I ((l.take i).foldl hashStep 11),ints l,I l.length,I i]) rfl (fun i x hx hi K=>?_) fun K=>?_
 ·simp [-getElem?_pos,Qfx_r0,hi,hx,Qfw_n,take_snoc hx,wr_succ (show i<1000000000000000000 by omega),hashStep]
 ·simp [Qfx_r0,sHash]) k
theorem Qdc_n (l:List Int) (hl:l.length<1000000000000000000) (k):call Qdc [.one (ints l)] k=k [I (sHash l)]:=call_of (fun k=>by
 simp [Qdc]
 refine lp_list l (fun i=>[ints l,I 0,I ((l.take i).foldl hashStep 11),I i]) rfl (fun i x hx hi K=>?_) fun K=>?_
 ·simp [-getElem?_pos,Qdc_r0,hi,hx,Qdb_n,take_snoc hx,wr_succ (show i<1000000000000000000 by omega),hashStep]
 ·simp [Qdc_r0,sHash]) k
def b2i (b:UInt8):Int:=b.toNat
def sB2I (s:List UInt8):List Int:=(s.length:Int)::s.map b2i
theorem Qhk_n (s:List UInt8) (hl:s.length<1000000000) (k):call Qhk [.one (byts s)] k=k [ints (sB2I s)]:=call_of (fun k=>by
 simp [Qhk]
 refine lp_list s (fun i=>[byts s,I s.length,I i,.list 1 [],ints ((s.length:Int)::(s.take i).map b2i)]) (by simp) (fun i x hx hi K=>?_) fun K=>?_
 ·have h2:min i s.length=i:=by omega
  simp [-getElem?_pos,Qhk_r0,hi,hx,take_snoc hx,wr_succ (show i<1000000000000000000 by omega),b2i,h2]
  rw [and_iff_right (by omega)]
  simp [ints,rI,Function.comp_def]
 ·simp [Qhk_r0,sB2I]) k
theorem Qec_n (s:List UInt8) (hl:s.length<1000000000) (k):call Qec [.one (byts s)] k=k [ints (sB2I s)]:=call_of (fun k=>by
 simp [Qec]
 refine lp_list s (fun i=>[byts s,I i,.list 1 [],ints ((s.length:Int)::(s.take i).map b2i)]) (by simp) (fun i x hx hi K=>?_) fun K=>?_
 ·have h2:min i s.length=i:=by omega
  simp [-getElem?_pos,Qec_r0,hi,hx,take_snoc hx,wr_succ (show i<1000000000000000000 by omega),b2i,h2]
  rw [and_iff_right (by omega)]
  simp [ints,rI,Function.comp_def]
 ·simp [Qec_r0,sB2I]) k
def sLabelInts (s:ByteArray):List Int:=sB2I s.data.toList
theorem Qhl_n (s:ByteArray) (hl:s.size<1000000000) (k):call Qhl [.one (.str s)] k=k [ints (sLabelInts s)]:=call_of (fun k=>by
 simp [Qhl,Qhk_n _ (show s.data.toList.length<1000000000 by simpa using hl),sLabelInts]) k
theorem Qed_n (s:ByteArray) (hl:s.size<1000000000) (k):call Qed [.one (.str s)] k=k [ints (sLabelInts s)]:=call_of (fun k=>by
 simp [Qed,Qec_n _ (show s.data.toList.length<1000000000 by simpa using hl),sLabelInts]) k
theorem sLabelInts_len (s:ByteArray):(sLabelInts s).length=s.size+1:=by simp [sLabelInts,sB2I]
theorem sumN_take_succ {α:Type} (f:α→Nat):∀(l:List α) (i:Nat) (x:α),l[i]? = some x→sumN f (l.take (i+1))=sumN f (l.take i)+f x
 | [],i,x,h=>by simp at h
 | a::l,0,x,h=>by simp at h;subst h;simp [sumN]
 | a::l,i+1,x,h=>by
  have:=sumN_take_succ f l i x (by simpa using h)
  simp only [List.take_succ_cons,sumN,this];omega
theorem sumN_take_le {α:Type} (f:α→Nat):∀(l:List α) (i:Nat),sumN f (l.take i)≤sumN f l
 | [],i=>by simp
 | a::l,0=>by simp [sumN]
 | a::l,i+1=>by
  have:=sumN_take_le f l i
  simp only [List.take_succ_cons,sumN];omega
theorem flatten_take_len {α:Type}:∀(ls:List (List α)),ls.flatten.length=sumN List.length ls
 | []=>rfl
 | l::ls=>by simp [sumN,flatten_take_len ls]
theorem Qga_n (n:Int) (h0:0≤n) (h:n<1073741824) (k):call Qga [.nil 3 1,.one (I n)] k=k [ints []]:=call_of (fun k=>by
 have w0:IntKind.i64.wrap 0=0:=wr_eq (by omega) (by omega)
 have w1:IntKind.i64.wrap n=n:=wr_eq (by omega) (by omega)
 simp [Qga,w0,w1,show ¬n<0 by omega,natP,makeP,cutP]
 by_cases hn:0<n
 ·simp [hn,h,h0,show n≤1073741823 by omega,show 0≤max n 0 by omega,ints]
 ·simp [hn,ints]) k
theorem flatRows_ints (l:List Int):flatRows (ints l):=by
 intro r hr p hp
 obtain ⟨x,_,rfl⟩:=List.mem_map.1 hr
 simp [rI] at hp
 subst hp;rfl
theorem Qgb_n (ls:List (List Int)) (h:ls.length+sumN List.length ls<100000000) (k):call Qgb [.one (.list 1 (ls.map fun l=>[ints l]))] k=k [ints ls.flatten]:=call_of (fun k=>by
 simp only [Qgb,lenP_eq,List.length_map,atP_zero]
 let L:PV:=.list 1 (ls.map fun l=>[ints l])
 refine lp_list (fin:=k [ints ls.flatten]) ls (fun i=>[L,I ((sumN List.length (ls.take i):Nat):Int),L,I ls.length,I i,.list 1 []]) (by simp [sumN,L]) (fun i x hx hi K=>?_) (fun K=>?_)
 ·have e1:=sumN_take_succ List.length ls i x hx
  have e2:=sumN_take_le List.length ls (i+1)
  have w1:IntKind.i64.wrap (((sumN List.length (ls.take i):Nat):Int)+(x.length:Int))=((sumN List.length (ls.take (i+1)):Nat):Int):=by
   rw [e1];rw [wr_eq (by omega) (by omega)];omega
  simp [-getElem?_pos,Qgb_r0,hx,hi,L,w1,wr_succ (show i<1000000000000000000 by omega),show ¬(((sumN List.length (ls.take (i+1)):Nat):Int)<0) by omega]
 ·simp only [Qgb_r0,un,cur0,binP_lss,iteP_eq,lenP_eq,L,List.take_length]
  simp [Qga_n ((sumN List.length ls:Nat):Int) (by omega) (by omega)]
  refine lp_list (fin:=k [ints ls.flatten]) ls (fun i=>[L,I ((sumN List.length ls:Nat):Int),L,I ls.length,I ls.length,L,I ls.length,I i,ints (ls.take i).flatten,.list 1 []]) (by simp [L]) (fun i x hx hi K=>?_) fun K=>?_
  ·have e1:=sumN_take_succ List.length ls i x hx
   have e2:=sumN_take_le List.length ls (i+1)
   have e3:(ls.take (i+1)).flatten=(ls.take i).flatten++x:=by
    rw [List.take_add_one,hx];simp
   have e4:=flatten_take_len (ls.take i)
   have e5:(ls.take i).flatten.length+x.length<1073741824:=by omega
   show _↔K [L,I ((sumN List.length ls:Nat):Int),L,I ls.length,I ls.length,L,I ls.length,I ((i+1:Nat):Int),ints (ls.take (i+1)).flatten,.list 1 []]
   rw [e3]
   generalize (ls.take i).flatten=A at e5
   rw [show ints (A++x)=PV.list 1 (A.map rI++x.map rI) by simp [ints]]
   simp [-getElem?_pos,Qgb_r1,hx,hi,L,flatRows_ints,catP,wr_succ (show i<1000000000000000000 by omega),e5]
  ·simp [Qgb_r1,L]) k
def keysInts (a:GKeys):List Int:=a.Need::(a.Lst.length:Int)::a.Lst
def bitI (b:Bool):Int:=if b=true then 1 else 0
def headInts (a:GHead):List Int :=
 [a.Zone,a.Epoch,a.Kind,a.Time,a.Until,a.Count,a.Root,a.Prev]++(keysInts a.Keys++(keysInts a.Heirs++([a.Wait]++(keysInts a.Judge++[bitI a.Frozen]))))
theorem fc_int (n:Int):flatCond [.pv (I 0)] [.pv (I n)]:=by intro x hx;simp at hx;subst hx;rfl
theorem Qda_n (a:GKeys) (h:mKeys a≤1048576) (k):call Qda [.agg (eKeys a)] k=k [ints (keysInts a)]:=call_of (fun k=>by
 unfold mKeys at h
 simp [Qda,keysInts,flatRows_ints,fc_int,catP,show 2+a.Lst.length<1073741824 by omega]
 exact Iff.rfl) k
theorem Qfv_n (a:GKeys) (h:mKeys a≤1048576) (k):call Qfv [.agg (eKeys a)] k=k [ints (keysInts a)]:=call_of (fun k=>by
 unfold mKeys at h
 simp [Qfv,keysInts,flatRows_ints,fc_int,catP,show 2+a.Lst.length<1073741824 by omega]
 exact Iff.rfl) k
theorem Qfz_n (b:Bool) (k):call Qfz [.one (.bool b)] k=k [I (bitI b)]:=call_of (fun k=>by
 cases b<;>simp [Qfz,bitI]) k
theorem keysInts_len (a:GKeys):(keysInts a).length=2+a.Lst.length:=by simp [keysInts];omega
theorem fc_own (i:Nat):flatCond [.nil 3 1] [.own i]:=by intro x hx;simp at hx;subst hx;trivial
theorem Qgc_n (a:GHead) (h:mHead a≤1048576) (k):call Qgc [.agg (eHead a)] k=k [ints (headInts a)]:=call_of (fun k=>by
 unfold mHead at h
 have k1:=Qfv_n a.Keys (by omega)
 have k2:=Qfv_n a.Heirs (by omega)
 have k3:=Qfv_n a.Judge (by omega)
 have l1:=keysInts_len a.Keys
 have l2:=keysInts_len a.Heirs
 have l3:=keysInts_len a.Judge
 unfold mKeys at h
 have c:=Qgb_n [[a.Zone,a.Epoch,a.Kind,a.Time,a.Until,a.Count,a.Root,a.Prev],keysInts a.Keys,keysInts a.Heirs,[a.Wait],keysInts a.Judge,[bitI a.Frozen]] (by
  simp only [sumN,List.length_cons,List.length_nil,l1,l2,l3];omega) (fun o=>k [atP o 0])
 simp only [Qgc,un,cur0,k1,k2,k3,Qfz_n,fc_int,fc_own,atP_zero,true_and,and_true,rt_eq,scs_own,show (1:Nat)≤16777216 by omega,show (2:Nat)≤16777216 by omega,show (6:Nat)≤16777216 by omega,show (8:Nat)≤16777216 by omega,scs_nil]
 exact iff_of_eq c) k
theorem Qde_n (a:GHead) (h:mHead a≤1048576) (k):call Qde [.agg (eHead a)] k=k [ints (headInts a)]:=call_of (fun k=>by
 unfold mHead at h
 have k1:=Qda_n a.Keys (by omega)
 have k2:=Qda_n a.Heirs (by omega)
 have k3:=Qda_n a.Judge (by omega)
 have l1:=keysInts_len a.Keys
 have l2:=keysInts_len a.Heirs
 have l3:=keysInts_len a.Judge
 unfold mKeys at h
 simp only [Qde,un,cur0,k1,k2,k3,fc_int,atP_zero,true_and,and_true,rt_eq,show (8:Nat)≤16777216 by omega,scs_nil]
 have e:ints (headInts a)=PV.list 1 (([[I a.Zone],[I a.Epoch],[I a.Kind],[I a.Time],[I a.Until],[I a.Count],[I a.Root],[I a.Prev]]++((keysInts a.Keys).map rI++((keysInts a.Heirs).map rI++([[I a.Wait]]++((keysInts a.Judge).map rI++[[I (bitI a.Frozen)]])))))):=by
  simp [ints,headInts]
 rw [e]
 cases hf:a.Frozen<;>simp [catP,l1,l2,l3,fc_int,bitI]
 all_goals exact ⟨fun h=>h.2.2.2.2.2,fun h=>⟨by omega,by omega,by omega,by omega,by omega,h⟩⟩) k
theorem listEq_dec {α:Type} [DecidableEq α] {eq:α→α→Bool} (h:∀x y,eq x y=decide (x=y)):∀(l m:List α),listEq eq l m=decide (l=m)
 | [],[]=>by simp [listEq]
 | [],y::m=>by simp [listEq]
 | x::l,[]=>by simp [listEq]
 | x::l,y::m=>by rw [listEq,listEq_dec h l m,h];simp [Bool.decide_and]
abbrev eqD {α:Type} [DecidableEq α] (x y:α):Bool:=decide (x=y)
theorem listEq_d {α:Type} [DecidableEq α] (l m:List α):listEq eqD l m=decide (l=m):=listEq_dec (fun _ _=>rfl) l m
theorem len_ne {α:Type} [DecidableEq α] {l m:List α} (h:¬l.length=m.length):decide (l=m)=false:=by simp;intro e;subst e;exact h rfl
theorem Qgq_n (l m:List Int) (h:l.length<1073741824) (k):call Qgq [.one (ints l),.one (ints m)] k=k [.bool (decide (l=m))]:=call_of (fun k=>by
 simp [Qgq]
 by_cases hl:l.length=m.length
 ·rw [←listEq_d]
  simp [hl]
  refine lp_zipk k l m (fun i=>[ints l,ints m,.bool false,I m.length,I i]) eqD rfl hl (fun i x y hx hy hi hj K=>?_) fun K=>?_
  ·simp [-getElem?_pos,Qgq_r0,hx,hy,hj,wr_succ (show i<1000000000000000000 by omega)]
  ·simp [Qgq_r0,hl]
 ·simp [show ¬(l.length:Int)=m.length by omega,len_ne hl]) k
theorem Qdn_n (l m:List Int) (h:l.length<1073741824) (k):call Qdn [.one (ints l),.one (ints m)] k=k [.bool (decide (l=m))]:=call_of (fun k=>by
 simp [Qdn]
 by_cases hl:l.length=m.length
 ·rw [←listEq_d]
  simp [hl]
  refine lp_zipk k l m (fun i=>[ints l,ints m,.bool false,I i]) eqD rfl hl (fun i x y hx hy hi hj K=>?_) fun K=>?_
  ·simp [-getElem?_pos,Qdn_r0,hx,hy,hi,wr_succ (show i<1000000000000000000 by omega)]
  ·simp [Qdn_r0]
 ·simp [show ¬(l.length:Int)=m.length by omega,len_ne hl]) k
theorem Qgr_n (a b:GKeys) (h:mKeys a≤1048576) (k):call Qgr [.agg (eKeys a),.agg (eKeys b)] k=k [.bool (decide (a=b))]:=call_of (fun k=>by
 unfold mKeys at h
 obtain ⟨l,n⟩:=a
 obtain ⟨m,q⟩:=b
 simp [Qgr,Qgq_n l m (by simp at h;omega)]
 by_cases hl:l=m<;>by_cases hn:n=q<;>simp [hl,hn,show (n==q)=decide (n=q) from rfl]) k
theorem headInts_len (a:GHead):(headInts a).length=16+mHead a:=by simp [headInts,keysInts,mHead,mKeys];omega
theorem stepB {b c:Bool} {P:Prop} {k:List PV→Prop} (h:b=true→(P↔k [.bool c])):(if b=true then P else k [.bool false])↔k [.bool (b&&c)]:=by
 cases b
 ·simp
 ·simpa using h rfl
theorem stepN {b c:Bool} {P:Prop} {k:List PV→Prop} (h:b=true→(P↔k [.bool c])):(if (!b)=true then k [.bool false] else P)↔k [.bool (b&&c)]:=by
 cases b
 ·simp
 ·simpa using h rfl
def sNo (a:GKeys):Bool:=decide (a.Need=0)&&decide (a.Lst.length=0)
theorem Qfr_n (a:GKeys) (k):call Qfr [.agg (eKeys a)] k=k [.bool (sNo a)]:=call_of (fun k=>by
 have e:((a.Lst.length:Int)==0)=decide (a.Lst.length=0):=by
  by_cases h:a.Lst.length=0
  ·rw [h];rfl
  ·rw [decide_eq_false h];exact beq_eq_false_iff_ne.2 (by omega)
 simp only [Qfr,un,cur0,binP_eql,lenP_eq,List.length_map,e,sNo,iteP_eq,rt_eq,scs_sc,scs_nil,flat_bool,true_and,and_true]
 by_cases h:a.Need=0<;>simp [h]) k
theorem Qcy_n (a:GKeys) (k):call Qcy [.agg (eKeys a)] k=k [.bool (sNo a)]:=call_of (fun k=>by
 have e:((a.Lst.length:Int)==0)=decide (a.Lst.length=0):=by
  by_cases h:a.Lst.length=0
  ·rw [h];rfl
  ·rw [decide_eq_false h];exact beq_eq_false_iff_ne.2 (by omega)
 simp only [Qcy,un,cur0,binP_eql,lenP_eq,List.length_map,e,sNo,iteP_eq,rt_eq,scs_sc,scs_nil,flat_bool,true_and,and_true]
 by_cases h:a.Need=0<;>simp [h]) k
theorem sNo_keys {a:GKeys} (h:sNo a=true):sIsKeys a=false:=by
 unfold sNo at h
 simp only [Bool.and_eq_true,decide_eq_true_eq] at h
 unfold sIsKeys inR
 simp [h.2]
def sMaybe (a:GKeys):Bool:=sNo a||sIsKeys a
def sJudge (a:GHead):Bool:=sIsKeys a.Judge||(sNo a.Judge&&!a.Frozen)
def sWait (a:GHead):Bool:=if sNo a.Heirs=true then decide (a.Wait=0)&&sJudge a else sIsKeys a.Heirs&&(inR a.Wait 1 500&&sJudge a)
def sIsHead (a:GHead):Bool :=
 inR a.Zone 0 2147483646&&(inR a.Root 0 2147483646&&(inR a.Prev 0 2147483646&&(inR a.Epoch 0 200&&(inR a.Kind 1 3&&(inR a.Time 0 100000&&(inR a.Until a.Time 100000&&(decide (a.Until-a.Time≤200) &&
 (inR a.Count 0 12&&(sIsKeys a.Keys&&sWait a)))))))))
theorem keys_le {a:GHead} (h:mHead a≤1048576):mKeys a.Keys≤1048576∧mKeys a.Heirs≤1048576∧mKeys a.Judge≤1048576:=by unfold mHead at h;omega
theorem Qcz_n (a:GHead) (h:mHead a≤1048576) (k):call Qcz [.agg (eHead a)] k=k [.bool (sIsHead a)]:=call_of (fun k=>by
 obtain ⟨h1,h2,h3⟩:=keys_le h
 have e1:=Qcx_n a.Keys h1
 have e2:=Qcx_n a.Heirs h2
 have e3:=Qcx_n a.Judge h3
 simp only [Qcz,un,cur0,Qcw_n,e1,e2,e3,Qcy_n,unP_not,atP_zero,iteP_eq,rt_eq,scs_sc,scs_nil,flat_bool,true_and,and_true,binP_sub,binP_gtr]
 refine stepN fun _=>stepN fun _=>stepN fun _=>stepN fun _=>stepN fun _=>stepN fun ht=>stepN fun hu=>?_
 have hw:IntKind.i64.wrap (a.Until-a.Time)=a.Until-a.Time:=by
  simp only [inR,Bool.and_eq_true,decide_eq_true_eq] at ht hu
  exact wr_eq (by omega) (by omega)
 rw [hw,show decide (200<a.Until-a.Time)=!decide (a.Until-a.Time≤200) by by_cases h:a.Until-a.Time≤200<;>simp [h]<;>omega]
 refine stepN fun _=>stepN fun _=>stepN fun _=>?_
 unfold sWait sJudge
 cases sNo a.Heirs<;>cases sIsKeys a.Heirs<;>cases inR a.Wait 1 500<;>cases sIsKeys a.Judge<;>cases sNo a.Judge<;>cases a.Frozen<;>by_cases hz:a.Wait=0<;>simp [hz]) k
theorem headLaw:∀(nh kh nj kj wt w0 fr:Bool) (h1:nh=true→kh=false) (h2:nj=true→kj=false),((nh||kh)&&((nj||kj)&&((if nh=true then w0 else wt)&&!(fr&&nj))))=(if nh=true then w0&&(kj||(nj&&!fr)) else kh&&(wt&&(kj||(nj&&!fr)))):=by decide
theorem Qfu_n (a:GHead) (h:mHead a≤1048576) (k):call Qfu [.agg (eHead a)] k=k [.bool (sIsHead a)]:=call_of (fun k=>by
 obtain ⟨h1,h2,h3⟩:=keys_le h
 have e1:=Qfq_n a.Keys h1
 have e2:=Qfq_n a.Heirs h2
 have e3:=Qfq_n a.Judge h3
 have d:∀x k,call Qfm [.one (I x)] k=k [.bool (inR x 0 2147483646)]:=fun x=>call_of (fun k=>by simp [Qfm,Qfl_n])
 have m2:∀k,call Qfs [.agg (eKeys a.Heirs)] k=k [.bool (sMaybe a.Heirs)]:=call_of (fun k=>by
  simp [Qfs,Qfr_n,e2,sMaybe];cases sNo a.Heirs<;>simp)
 have m3:∀k,call Qfs [.agg (eKeys a.Judge)] k=k [.bool (sMaybe a.Judge)]:=call_of (fun k=>by
  simp [Qfs,Qfr_n,e3,sMaybe];cases sNo a.Judge<;>simp)
 have m4:∀k,call Qft [.one (I a.Wait),.agg (eKeys a.Heirs)] k=k [.bool (if sNo a.Heirs=true then decide (a.Wait=0) else inR a.Wait 1 500)]:=call_of (fun k=>by
  simp [Qft,Qfr_n,Qfl_n];cases sNo a.Heirs<;>simp
  by_cases hz:a.Wait=0
  ·simp [hz]
  ·rw [show (a.Wait==0)=false from beq_eq_false_iff_ne.2 hz];simp [hz])
 have m5:∀k,call Qfn [.agg (eHead a)] k=k [.bool (inR a.Time 0 100000&&(inR a.Until a.Time 100000&&decide (a.Until-a.Time≤200)))]:=call_of (fun k=>by
  simp only [Qfn,un,cur0,binP_geq,binP_leq,binP_sub,iteP_eq,rt_eq,scs_sc,scs_nil,flat_bool,true_and,and_true]
  by_cases c1:0≤a.Time
  ·by_cases c2:a.Time≤a.Until
   ·by_cases c3:a.Until≤100000
    ·rw [wr_eq (show -9223372036854775808≤a.Until-a.Time by omega) (by omega)]
     simp [c1,c2,c3,inR,show a.Time≤100000 by omega]
    ·simp [c1,c2,c3,inR]
   ·simp [c1,c2,inR]
  ·simp [c1,inR])
 simp only [Qfu,un,cur0,d,Qfl_n,e1,m2,m3,m4,m5,Qfr_n,unP_not,atP_zero,iteP_eq,rt_eq,scs_sc,scs_nil,flat_bool,true_and,and_true]
 have key:∀z r p e q sp c ks mh mj wt no fr:Bool,(if z=true then if r=true then if p=true then if e=true then if q=true then if sp=true then if c=true then if ks=true then if mh=true then if mj=true then if wt=true then
  if fr=true then k [.bool !no] else k [.bool true] else k [.bool false] else k [.bool false] else k [.bool false] else k [.bool false] else k [.bool false] else k [.bool false] else k [.bool false] else k [.bool false] else k [.bool false] else k [.bool false] else k [.bool false]) ↔
  k [.bool (z&&(r&&(p&&(e&&(q&&(sp&&(c&&(ks&&(mh&&(mj&&(wt&&!(fr&&no))))))))))))]:=by
  intro z r p e q sp c ks mh mj wt no fr
  refine stepB fun _=>stepB fun _=>stepB fun _=>stepB fun _=>stepB fun _=>stepB fun _=>stepB fun _=>stepB fun _=>stepB fun _=>stepB fun _=>stepB fun _=>?_
  cases fr<;>simp
 refine (key _ _ _ _ _ _ _ _ _ _ _ _ _).trans ?_
 apply iff_of_eq
 congr 3
 unfold sIsHead sWait sJudge sMaybe
 simp only [Bool.and_assoc]
 rw [headLaw _ _ _ _ _ _ _ (@sNo_keys a.Heirs) (@sNo_keys a.Judge)]) k
theorem beqI (a b:Int):(a==b)=decide (a=b):=by
 by_cases h:a=b
 ·subst h;simp
 ·rw [decide_eq_false h];exact beq_eq_false_iff_ne.2 h
def sKH (key:Int) (m:List Int):Int:=sHash (key::(m++[key]))
theorem Qgd_n (key:Int) (m:List Int) (h:m.length<90000000) (k):call Qgd [.one (I key),.one (ints m)] k=k [I (sKH key m)]:=call_of (fun k=>by
 have e:∀k,call Qgb [.one (.list 1 [[.list 1 [[I key]]],[ints m],[.list 1 [[I key]]]])] k=k [ints (key::(m++[key]))]:=fun k=>by
  have:=Qgb_n [[key],m,[key]] (by simp [sumN];omega) k
  simpa [ints] using this
 have e2:=Qfx_n (key::(m++[key])) (by simp;omega)
 simp only [Qgd,un,cur0,fc_int,fc_own,true_and,e,atP_zero,e2,rt_eq,scs_sc,scs_nil,flat_int]
 simp [sKH]) k
theorem Qdf_n (key:Int) (m:List Int) (h:m.length<90000000) (k):call Qdf [.one (I key),.one (ints m)] k=k [I (sKH key m)]:=call_of (fun k=>by
 have e2:=Qdc_n (key::(m++[key])) (by simp;omega)
 have e3:(PV.list 1 ([I key]::(m.map rI++[[I key]])))=ints (key::(m++[key])):=by simp [ints]
 simp [Qdf,fc_int,flatRows_ints,catP,show 1+m.length<1073741824 by omega]
 rw [e3,e2]
 simp [sKH]
 try (intros;omega)) k
def sTag (key:Int) (m:List Int):Int:=sKH key (223::m)
theorem Qge_n (key:Int) (m:List Int) (h:m.length<80000000) (k):call Qge [.one (I key),.one (ints m)] k=k [I (sTag key m)]:=call_of (fun k=>by
 have e2:=Qgd_n key (223::m) (by simp;omega)
 have e3:PV.list 1 ([I 223]::m.map rI)=ints (223::m):=by simp [ints]
 simp [Qge,fc_int,flatRows_ints,catP,show 1+m.length<1073741824 by omega]
 rw [e3,e2]
 simp [sTag]
 try (intros;omega)) k
theorem Qdg_n (key:Int) (m:List Int) (h:m.length<80000000) (k):call Qdg [.one (I key),.one (ints m)] k=k [I (sTag key m)]:=call_of (fun k=>by
 have e2:=Qdf_n key (223::m) (by simp;omega)
 have e3:PV.list 1 ([I 223]::m.map rI)=ints (223::m):=by simp [ints]
 simp [Qdg,fc_int,flatRows_ints,catP,show 1+m.length<1073741824 by omega]
 rw [e3,e2]
 simp [sTag]
 try (intros;omega)) k
def sDigest (a:GHead):Int:=sHash (233::headInts a)
theorem Qgn_n (a:GHead) (h:mHead a≤1048576) (k):call Qgn [.agg (eHead a)] k=k [I (sDigest a)]:=call_of (fun k=>by
 have hl:=headInts_len a
 have e1:=Qgc_n a h
 have e2:=Qfx_n (233::headInts a) (by simp;omega)
 have e3:PV.list 1 ([I 233]::(headInts a).map rI)=ints (233::headInts a):=by simp [ints]
 simp [Qgn,fc_int,e1,catP,show 1+(headInts a).length<1073741824 by omega]
 rw [e3,e2]
 simp [sDigest]
 try (intros;omega)) k
theorem Qdl_n (a:GHead) (h:mHead a≤1048576) (k):call Qdl [.agg (eHead a)] k=k [I (sDigest a)]:=call_of (fun k=>by
 have hl:=headInts_len a
 have e1:=Qde_n a h
 have e2:=Qdc_n (233::headInts a) (by simp;omega)
 have e3:PV.list 1 ([I 233]::(headInts a).map rI)=ints (233::headInts a):=by simp [ints]
 simp [Qdl,fc_int,e1,catP,show 1+(headInts a).length<1073741824 by omega]
 rw [e3,e2]
 simp [sDigest]
 try (intros;omega)) k
def sZoneOf (a:GKeys) (salt:Int):Int:=sHash (239::salt::keysInts a)
theorem Qfy_n (a:GKeys) (salt:Int) (h:mKeys a≤1048576) (k):call Qfy [.agg (eKeys a),.one (I salt)] k=k [I (sZoneOf a salt)]:=call_of (fun k=>by
 have hl:=keysInts_len a
 have h':=h
 unfold mKeys at h'
 have e1:=Qfv_n a h
 have e2:=Qfx_n (239::salt::keysInts a) (by simp;omega)
 have e3:PV.list 1 ([I 239]::[I salt]::(keysInts a).map rI)=ints (239::salt::keysInts a):=by simp [ints]
 simp [Qfy,fc_int,e1,catP,show 2+(keysInts a).length<1073741824 by omega]
 rw [e3,e2]
 simp [sZoneOf]
 try (intros;omega)) k
theorem Qdd_n (a:GKeys) (salt:Int) (h:mKeys a≤1048576) (k):call Qdd [.agg (eKeys a),.one (I salt)] k=k [I (sZoneOf a salt)]:=call_of (fun k=>by
 have hl:=keysInts_len a
 have h':=h
 unfold mKeys at h'
 have e1:=Qda_n a h
 have e2:=Qdc_n (239::salt::keysInts a) (by simp;omega)
 have e3:PV.list 1 ([I 239]::[I salt]::(keysInts a).map rI)=ints (239::salt::keysInts a):=by simp [ints]
 simp [Qdd,fc_int,e1,catP,show 2+(keysInts a).length<1073741824 by omega]
 rw [e3,e2]
 simp [sZoneOf]
 try (intros;omega)) k
def sSigBy (m:List Int) (s:GSig):Bool:=isKeyB s.Key&&decide (s.Tag=sTag s.Key m)
theorem Qgf_n (s:GSig) (m:List Int) (h:m.length<80000000) (k):call Qgf [.agg (eSig s),.one (ints m)] k=k [.bool (sSigBy m s)]:=call_of (fun k=>by
 have e:=Qge_n s.Key m h
 simp only [Qgf,un,cur0,Qfp_n,e,atP_zero,binP_eql,iteP_eq,rt_eq,scs_sc,scs_nil,flat_bool,true_and,and_true]
 exact stepB (c:=decide (s.Tag=sTag s.Key m)) fun _=>by rw [beqI]) k
theorem Qdh_n (s:GSig) (m:List Int) (h:m.length<80000000) (k):call Qdh [.agg (eSig s),.one (ints m)] k=k [.bool (sSigBy m s)]:=call_of (fun k=>by
 have e:=Qdg_n s.Key m h
 simp only [Qdh,un,cur0,Qcw_n,e,atP_zero,binP_eql,iteP_eq,rt_eq,scs_sc,scs_nil,flat_bool,true_and,and_true]
 exact stepB (b:=isKeyB s.Key) (c:=decide (s.Tag=sTag s.Key m)) fun _=>by rw [beqI]) k
def sigP (m:List Int) (key:Int) (s:GSig):Bool:=decide (s.Key=key)&&sSigBy m s
def sCount (a:GKeys) (m:List Int) (l:List GSig):Nat:=a.Lst.countP fun key=>l.any (sigP m key)
theorem slices_ContainsFunc_Sig_n (l:List GSig) (key:Int) (m:List Int) (hl:l.length≤1048576) (h:m.length<80000000) (k):call Qgi [.one (.list 2 (l.map eSig)),.fn 433 [.cells [I key],.cells [ints m]]] k=k [.bool (l.any (sigP m key))]:=call_of (fun k=>by
 have e:∀k,call Qgh [.one (.list 2 (l.map eSig)),.fn 433 [.cells [I key],.cells [ints m]]] k=k [I (idx (sigP m key) l)]:=call_of (fun k=>by
  simp [Qgh]
  refine lp_find (Q:=fun i=>k [I i]) l (fun i=>[.list 2 (l.map eSig),I key,ints m,I 0,I l.length,I i]) (sigP m key) rfl (fun i x hx hi K=>?_) fun K=>?_
  ·have e1:∀k,call Qgg [.agg (eSig x),.ro (.cells [I key]),.ro (.cells [ints m])] k=k [.bool (sigP m key x)]:=call_of (fun k=>by
    have e:=Qgf_n x m h
    simp only [Qgg,un,cur0,binP_eql,e,atP_zero,iteP_eq,rt_eq,scs_sc,scs_nil,flat_bool,true_and,and_true]
    by_cases hk:x.Key=key<;>simp [hk,sigP])
   simp [-getElem?_pos,Qgh_r0,hx,hi,e1,wr_succ (show i<1000000000000000000 by omega)]
  ·simp [Qgh_r0])
 simp [Qgi,e,idx_any]) k
theorem Qgj_n (a:GKeys) (m:List Int) (l:List GSig) (h:mKeys a≤1048576) (hm:m.length<80000000) (hl:l.length≤1048576) (k):call Qgj [.agg (eKeys a),.one (ints m),.one (.list 2 (l.map eSig))] k=k [I (sCount a m l)]:=call_of (fun k=>by
 unfold mKeys at h
 simp [Qgj]
 refine lp_list a.Lst (fun i=>[.list 2 (l.map eSig),I 0,I ((a.Lst.take i).countP fun key=>l.any (sigP m key):Nat),ints a.Lst,I a.Lst.length,I i,ints m]) rfl (fun i x hx hi K=>?_) fun K=>?_
 ·have hc:(a.Lst.take i).countP (fun key=>l.any (sigP m key))≤i:=Nat.le_trans List.countP_le_length (by simp;omega)
  have e:=slices_ContainsFunc_Sig_n l x m hl hm
  simp only [Qgj_r0,un,cur0,binP_lss,iteP_eq,show decide ((i:Int)<a.Lst.length)=true by simp;omega,if_true,elemP,ints,List.getElem?_map,hx,Int.toNat_natCast,Option.map_some,true_and,atP_zero,rI]
  rw [show PV.list 1 (m.map fun n=>[I n])=ints m from rfl]
  simp only [e,atP_zero,iteP_eq,binP_add,wr_succ (show i<1000000000000000000 by omega),wr_succ (show (a.Lst.take i).countP (fun key=>l.any (sigP m key))<1000000000000000000 by omega)]
  rw [take_snoc hx,List.countP_append,List.countP_cons,List.countP_nil]
  cases hb:l.any (sigP m x)<;>simp [hb]
 ·simp [Qgj_r0,sCount]) k
theorem Qdi_n (a:GKeys) (m:List Int) (l:List GSig) (h:mKeys a≤1048576) (hm:m.length<80000000) (hl:l.length≤1048576) (k):call Qdi [.agg (eKeys a),.one (ints m),.one (.list 2 (l.map eSig))] k=k [I (sCount a m l)]:=call_of (fun k=>by
 unfold mKeys at h
 simp only [Qdi,un,cur0,rt_eq,scs_sc,scs_nil,flat_int,true_and]
 refine lp_list a.Lst (fun i=>[ints m,.list 2 (l.map eSig),I 0,I ((a.Lst.take i).countP fun key=>l.any (sigP m key):Nat),I i,ints a.Lst,I a.Need]) rfl (fun i x hx hi K=>?_) fun K=>?_
 ·have hc:(a.Lst.take i).countP (fun key=>l.any (sigP m key))≤i:=Nat.le_trans List.countP_le_length (by simp;omega)
  simp [-getElem?_pos,Qdi_r0,hi]
  rw [take_snoc hx,List.countP_append,List.countP_cons,List.countP_nil]
  generalize hn:(a.Lst.take i).countP (fun key=>l.any (sigP m key))=n at hc
  refine (lp_any (P:=K [ints m,.list 2 (l.map eSig),I 0,I ((n+1:Nat):Int),I ((i+1:Nat):Int),ints a.Lst,I a.Need]) (fin:=K [ints m,.list 2 (l.map eSig),I 0,I (n:Int),I ((i+1:Nat):Int),ints a.Lst,I a.Need]) l (fun j=>[ints m,.list 2 (l.map eSig),I 0,I (n:Int),I i,I j,ints a.Lst,I a.Need]) (sigP m x) rfl (fun j y hy hj K=>?_) fun K=>?_).trans ?_
  ·have e:=Qdh_n y m hm
   simp [-getElem?_pos,Qdi_r1,hx,hy,hj,e,sigP,wr_succ (show j<1000000000000000000 by omega),wr_succ (show n<1000000000000000000 by omega),wr_succ (show i<1000000000000000000 by omega)]
   by_cases hk:y.Key=x<;>simp [hk]
  ·simp [Qdi_r1,wr_succ (show i<1000000000000000000 by omega)]
  ·cases hb:l.any (sigP m x)<;>simp [hb]
 ·simp [Qdi_r0,sCount]) k
def sIsSigned (a:GKeys) (m:List Int) (l:List GSig):Bool:=sIsKeys a&&decide (a.Need≤(sCount a m l:Int))
theorem Qgk_n (a:GKeys) (m:List Int) (l:List GSig) (h:mKeys a≤1048576) (hm:m.length<80000000) (hl:l.length≤1048576) (k):call Qgk [.agg (eKeys a),.one (ints m),.one (.list 2 (l.map eSig))] k=k [.bool (sIsSigned a m l)]:=call_of (fun k=>by
 have e1:=Qfq_n a h
 have e2:=Qgj_n a m l h hm hl
 simp only [Qgk,un,cur0,e1,e2,atP_zero,iteP_eq,rt_eq,scs_sc,scs_nil,flat_bool,true_and,and_true,binP_geq]
 exact stepB fun _=>Iff.rfl) k
theorem Qdj_n (a:GKeys) (m:List Int) (l:List GSig) (h:mKeys a≤1048576) (hm:m.length<80000000) (hl:l.length≤1048576) (k):call Qdj [.agg (eKeys a),.one (ints m),.one (.list 2 (l.map eSig))] k=k [.bool (sIsSigned a m l)]:=call_of (fun k=>by
 have e1:=Qcx_n a h
 have e2:=Qdi_n a m l h hm hl
 simp only [Qdj,un,cur0,e1,e2,atP_zero,iteP_eq,rt_eq,scs_sc,scs_nil,flat_bool,true_and,and_true,binP_geq]
 exact stepB fun _=>Iff.rfl) k
theorem signed_le {s:GSigned} (h:mSigned s≤1048576):mHead s.Head≤1048576∧s.Sigs.length≤1048576∧(headInts s.Head).length<80000000:=by
 have hl:=headInts_len s.Head
 unfold mSigned at h
 omega
def sBy (s:GSigned) (a:GKeys):Bool:=sIsSigned a (headInts s.Head) s.Sigs
theorem impl_isSignedBy_n (s:GSigned) (a:GKeys) (h:mSigned s≤1048576) (ha:mKeys a≤1048576) (k):call Qgl [.agg (eSigned s),.agg (eKeys a)] k=k [.bool (sBy s a)]:=call_of (fun k=>by
 obtain ⟨h1,h2,h3⟩:=signed_le h
 have e1:=Qgc_n s.Head h1
 have e2:=Qgk_n a (headInts s.Head) s.Sigs ha h3 h2
 simp only [Qgl,un,cur0,e1,e2,atP_zero,rt_eq,scs_sc,scs_nil,flat_bool,true_and,and_true,sBy]) k
def sIsFirst (s:GSigned):Bool:=sIsHead s.Head&&(decide (s.Head.Epoch=0)&&(decide (s.Head.Kind=1)&&(!s.Head.Frozen&&(decide (s.Head.Zone=sZoneOf s.Head.Keys s.Head.Prev)&&sBy s s.Head.Keys))))
theorem Qgm_n (s:GSigned) (h:mSigned s≤1048576) (k):call Qgm [.agg (eSigned s)] k=k [.bool (sIsFirst s)]:=call_of (fun k=>by
 obtain ⟨h1,h2,h3⟩:=signed_le h
 obtain ⟨q1,q2,q3⟩:=keys_le h1
 have e1:=Qfu_n s.Head h1
 have e2:=Qfy_n s.Head.Keys s.Head.Prev q1
 have e3:=impl_isSignedBy_n s s.Head.Keys h q1
 simp only [Qgm,un,cur0,e1,e2,e3,binP_eql,beqI,unP_not,atP_zero,iteP_eq,rt_eq,scs_sc,scs_nil,flat_bool,true_and,and_true]
 exact stepB fun _=>stepB fun _=>stepB fun _=>stepB fun _=>stepB fun _=>Iff.rfl) k
theorem Qdk_n (s:GSigned) (h:mSigned s≤1048576) (k):call Qdk [.agg (eSigned s)] k=k [.bool (sIsFirst s)]:=call_of (fun k=>by
 obtain ⟨h1,h2,h3⟩:=signed_le h
 obtain ⟨q1,q2,q3⟩:=keys_le h1
 have e1:=Qcz_n s.Head h1
 have e2:=Qdd_n s.Head.Keys s.Head.Prev q1
 have e3:=Qde_n s.Head h1
 have e4:=Qdj_n s.Head.Keys (headInts s.Head) s.Sigs q1 h3 h2
 simp only [Qdk,un,cur0,e1,e2,e3,e4,binP_eql,beqI,unP_not,atP_zero,iteP_eq,rt_eq,scs_sc,scs_nil,flat_bool,true_and,and_true]
 exact stepB fun _=>stepB fun _=>stepB fun _=>stepB fun _=>stepB fun _=>Iff.rfl) k
theorem stepI {b:Bool} {v c:Int} {P:Prop} {k:List PV→Prop} (h:b=false→(P↔k [I c])):(if b=true then k [I v] else P)↔k [I (if b=true then v else c)]:=by
 cases b
 ·simpa using h rfl
 ·simp
theorem stepJ {b:Bool} {v c:Int} {P:Prop} {k:List PV→Prop} (h:b=true→(P↔k [I c])):(if (!b)=true then k [I v] else P)↔k [I (if b=true then c else v)]:=by
 cases b
 ·simp
 ·simpa using h rfl
def sSame (a b:GHead):Bool:=decide (a.Count=b.Count)&&decide (a.Root=b.Root)
theorem Qgs_n (a b:GHead) (k):call Qgs [.agg (eHead a),.agg (eHead b)] k=k [.bool (sSame a b)]:=call_of (fun k=>by
 simp only [Qgs,un,cur0,binP_eql,beqI,iteP_eq,rt_eq,scs_sc,scs_nil,flat_bool,true_and,and_true]
 exact stepB fun _=>Iff.rfl) k
theorem Qdp_n (a b:GHead) (k):call Qdp [.agg (eHead a),.agg (eHead b)] k=k [.bool (sSame a b)]:=call_of (fun k=>by
 simp only [Qdp,un,cur0,binP_eql,beqI,iteP_eq,rt_eq,scs_sc,scs_nil,flat_bool,true_and,and_true]
 exact stepB fun _=>Iff.rfl) k
def sNext (p h:GHead):Bool:=decide (h.Zone=p.Zone)&&(decide (h.Epoch=IntKind.i64.wrap (p.Epoch+1))&&(decide (h.Prev=sDigest p)&&decide (p.Time≤h.Time)))
theorem Qgo_n (p h:GHead) (hp:mHead p≤1048576) (k):call Qgo [.agg (eHead p),.agg (eHead h)] k=k [.bool (sNext p h)]:=call_of (fun k=>by
 have e:=Qgn_n p hp
 simp only [Qgo,un,cur0,e,binP_eql,binP_geq,binP_add,beqI,atP_zero,iteP_eq,rt_eq,scs_sc,scs_nil,flat_bool,true_and,and_true]
 exact stepB fun _=>stepB fun _=>stepB fun _=>Iff.rfl) k
def sOwner (p:GHead) (s:GSigned):Int:=if p.Frozen=true then 4 else if s.Head.Frozen=true then 6 else if sBy s p.Keys=true then 1 else 7
def sHeir (p:GHead) (s:GSigned):Int:=if p.Frozen=true then 4 else if sNo p.Heirs=true then 5 else if decide (s.Head.Time<IntKind.i64.wrap (p.Until+p.Wait))=true then 5 else if s.Head.Frozen=true then 6 else
 if decide (s.Head.Keys=p.Heirs)=true then (if sSame s.Head p=true then (if sBy s p.Heirs=true then 1 else 7) else 6) else 6
def sJC (p:GHead) (s:GSigned):Int:=if sNo p.Judge=true then 5 else if decide (s.Head.Frozen=p.Frozen)=true then 6 else
 if (sSame s.Head p&&(decide (s.Head.Judge=p.Judge)&&(decide (s.Head.Heirs=p.Heirs)&&decide (s.Head.Wait=p.Wait))))=true then (if (!s.Head.Frozen||decide (s.Head.Keys=p.Keys))=true then (if sBy s p.Judge=true then 1 else 7) else 6) else 6
def sCode (p:GHead) (s:GSigned):Int:=if sIsHead p=true then (if sIsHead s.Head=true then (if sNext p s.Head=true then (if decide (s.Head.Kind=1)=true then sOwner p s else if decide (s.Head.Kind=2)=true then sHeir p s else sJC p s) else 3) else 2) else 2
theorem Qgp_n (p:GHead) (s:GSigned) (hp:mHead p≤1048576) (hs:mSigned s≤1048576) (k):call Qgp [.agg (eHead p),.agg (eSigned s)] k=k [I (sOwner p s)]:=call_of (fun k=>by
 obtain ⟨q1,q2,q3⟩:=keys_le hp
 have e:=impl_isSignedBy_n s p.Keys hs q1
 simp only [Qgp,un,cur0,e,unP_not,atP_zero,iteP_eq,rt_eq,scs_sc,scs_nil,flat_int,true_and,and_true]
 exact stepI fun _=>stepI fun _=>stepJ fun _=>Iff.rfl) k
theorem Qgt_n (p:GHead) (s:GSigned) (hp:mHead p≤1048576) (hs:mSigned s≤1048576) (k):call Qgt [.agg (eHead p),.agg (eSigned s)] k=k [I (sHeir p s)]:=call_of (fun k=>by
 obtain ⟨q1,q2,q3⟩:=keys_le hp
 obtain ⟨r1,r2,r3⟩:=keys_le (signed_le hs).1
 have e:=impl_isSignedBy_n s p.Heirs hs q2
 have e2:=Qgr_n s.Head.Keys p.Heirs r1
 simp only [Qgt,un,cur0,e,e2,Qfr_n,Qgs_n,unP_not,binP_add,binP_lss,atP_zero,iteP_eq,rt_eq,scs_sc,scs_nil,flat_int,true_and,and_true]
 exact stepI fun _=>stepI fun _=>stepI fun _=>stepI fun _=>stepJ fun _=>stepJ fun _=>stepJ fun _=>Iff.rfl) k
theorem Qgu_n (p:GHead) (s:GSigned) (hp:mHead p≤1048576) (hs:mSigned s≤1048576) (k):call Qgu [.agg (eHead p),.agg (eSigned s)] k=k [I (sJC p s)]:=call_of (fun k=>by
 obtain ⟨q1,q2,q3⟩:=keys_le hp
 obtain ⟨r1,r2,r3⟩:=keys_le (signed_le hs).1
 have e:=impl_isSignedBy_n s p.Judge hs q3
 have e2:=Qgr_n s.Head.Judge p.Judge r3
 have e3:=Qgr_n s.Head.Heirs p.Heirs r2
 have e4:=Qgr_n s.Head.Keys p.Keys r1
 simp only [Qgu,un,cur0,e,e2,e3,e4,Qfr_n,Qgs_n,unP_not,boolP_eql,binP_eql,beqI,atP_zero,iteP_eq,rt_eq,scs_sc,scs_nil,flat_int,true_and,and_true,sJC]
 generalize sNo p.Judge=b1
 generalize sSame s.Head p=b2
 generalize decide (s.Head.Judge=p.Judge)=b3
 generalize decide (s.Head.Heirs=p.Heirs)=b4
 generalize decide (s.Head.Wait=p.Wait)=b5
 generalize decide (s.Head.Keys=p.Keys)=b6
 generalize sBy s p.Judge=b7
 cases b1<;>cases b2<;>cases b3<;>cases b4<;>cases b5<;>cases b6<;>cases b7<;>cases s.Head.Frozen<;>cases p.Frozen<;>simp) k
theorem Qgv_n (p:GHead) (s:GSigned) (hp:mHead p≤1048576) (hs:mSigned s≤1048576) (k):call Qgv [.agg (eHead p),.agg (eSigned s)] k=k [I (sCode p s)]:=call_of (fun k=>by
 have e1:=Qfu_n p hp
 have e2:=Qfu_n s.Head (signed_le hs).1
 have e3:=Qgo_n p s.Head hp
 have e4:=Qgp_n p s hp hs
 have e5:=Qgt_n p s hp hs
 have e6:=Qgu_n p s hp hs
 simp only [Qgv,un,cur0,e1,e2,e3,e4,e5,e6,unP_not,binP_eql,beqI,atP_zero,iteP_eq,rt_eq,scs_sc,scs_nil,flat_int,true_and,and_true]
 refine stepJ fun _=>stepJ fun _=>stepJ fun _=>?_
 by_cases h1:s.Head.Kind=1
 ·simp [h1]
 ·by_cases h2:s.Head.Kind=2<;>simp [h1,h2]) k
def sMay (p:GHead) (s:GSigned):Bool:=decide (sCode p s=1)
theorem Qgw_n (p:GHead) (s:GSigned) (hp:mHead p≤1048576) (hs:mSigned s≤1048576) (k):call Qgw [.agg (eHead p),.agg (eSigned s)] k=k [.bool (sMay p s)]:=call_of (fun k=>by
 have e:=Qgv_n p s hp hs
 simp only [Qgw,un,cur0,e,binP_eql,beqI,atP_zero,rt_eq,scs_sc,scs_nil,flat_bool,true_and,and_true,sMay]) k
theorem Qdo_n (a b:GKeys) (h:mKeys a≤1048576) (k):call Qdo [.agg (eKeys a),.agg (eKeys b)] k=k [.bool (decide (a=b))]:=call_of (fun k=>by
 unfold mKeys at h
 obtain ⟨l,n⟩:=a
 obtain ⟨m,q⟩:=b
 have e:=Qdn_n l m (by simp only at h;omega)
 simp only [Qdo,un,cur0,e,binP_eql,beqI,atP_zero,iteP_eq,rt_eq,scs_sc,scs_nil,flat_bool,true_and,and_true]
 by_cases h1:n=q<;>by_cases h2:l=m<;>simp [h1,h2]) k
theorem Qdm_n (p h:GHead) (k):call Qdm [.agg (eHead p),.agg (eHead h)] k=k [I (if p.Frozen=true then 4 else if h.Frozen=true then 6 else 1)]:=call_of (fun k=>by
 simp only [Qdm,un,cur0,iteP_eq,rt_eq,scs_sc,scs_nil,flat_int,true_and,and_true]
 exact stepI fun _=>stepI fun _=>Iff.rfl) k
def pHeir (p h:GHead):Int:=if p.Frozen=true then 4 else if sNo p.Heirs=true then 5 else if decide (h.Time<IntKind.i64.wrap (p.Until+p.Wait))=true then 5 else if h.Frozen=true then 6 else
 if decide (h.Keys=p.Heirs)=true then (if sSame h p=true then 1 else 6) else 6
theorem Qdq_n (p h:GHead) (hp:mHead p≤1048576) (hh:mHead h≤1048576) (k):call Qdq [.agg (eHead p),.agg (eHead h)] k=k [I (pHeir p h)]:=call_of (fun k=>by
 obtain ⟨r1,r2,r3⟩:=keys_le hh
 have e2:=Qdo_n h.Keys p.Heirs r1
 simp only [Qdq,un,cur0,e2,Qcy_n,Qdp_n,unP_not,binP_add,binP_lss,atP_zero,iteP_eq,rt_eq,scs_sc,scs_nil,flat_int,true_and,and_true]
 exact stepI fun _=>stepI fun _=>stepI fun _=>stepI fun _=>stepJ fun _=>stepJ fun _=>Iff.rfl) k
def pJudge (p h:GHead):Int:=if sNo p.Judge=true then 5 else if decide (h.Frozen=p.Frozen)=true then 6 else
 if (sSame h p&&(decide (h.Judge=p.Judge)&&(decide (h.Heirs=p.Heirs)&&decide (h.Wait=p.Wait))))=true then (if (!h.Frozen||decide (h.Keys=p.Keys))=true then 1 else 6) else 6
theorem Qdr_n (p h:GHead) (hp:mHead p≤1048576) (hh:mHead h≤1048576) (k):call Qdr [.agg (eHead p),.agg (eHead h)] k=k [I (pJudge p h)]:=call_of (fun k=>by
 obtain ⟨r1,r2,r3⟩:=keys_le hh
 have e2:=Qdo_n h.Judge p.Judge r3
 have e3:=Qdo_n h.Heirs p.Heirs r2
 have e4:=Qdo_n h.Keys p.Keys r1
 have e5:(h.Wait != p.Wait)=!decide (h.Wait=p.Wait):=by rw [bne,beqI]
 simp only [Qdr,un,cur0,e2,e3,e4,Qcy_n,Qdp_n,unP_not,boolP_eql,binP_neq,e5,atP_zero,iteP_eq,rt_eq,scs_sc,scs_nil,flat_int,true_and,and_true,pJudge]
 generalize sNo p.Judge=b1
 generalize sSame h p=b2
 generalize decide (h.Judge=p.Judge)=b3
 generalize decide (h.Heirs=p.Heirs)=b4
 generalize decide (h.Wait=p.Wait)=b5
 generalize decide (h.Keys=p.Keys)=b6
 cases b1<;>cases b2<;>cases b3<;>cases b4<;>cases b5<;>cases b6<;>cases h.Frozen<;>cases p.Frozen<;>simp) k
theorem code_owner (p:GHead) (s:GSigned):sOwner p s=if decide ((if p.Frozen=true then 4 else if s.Head.Frozen=true then 6 else 1:Int)=1)=true then (if sBy s p.Keys=true then 1 else 7) else (if p.Frozen=true then 4 else if s.Head.Frozen=true then 6 else 1):=by
 unfold sOwner
 cases p.Frozen<;>cases s.Head.Frozen<;>simp
theorem code_heir (p:GHead) (s:GSigned):sHeir p s=if decide (pHeir p s.Head=1)=true then (if sBy s p.Heirs=true then 1 else 7) else pHeir p s.Head:=by
 unfold sHeir pHeir
 cases p.Frozen<;>cases sNo p.Heirs<;>by_cases h1:s.Head.Time<IntKind.i64.wrap (p.Until+p.Wait)<;>cases s.Head.Frozen<;>by_cases h2:s.Head.Keys=p.Heirs<;>cases sSame s.Head p<;>simp [h1,h2]
theorem code_judge (p:GHead) (s:GSigned):sJC p s=if decide (pJudge p s.Head=1)=true then (if sBy s p.Judge=true then 1 else 7) else pJudge p s.Head:=by
 unfold sJC pJudge
 generalize (sSame s.Head p&&(decide (s.Head.Judge=p.Judge)&&(decide (s.Head.Heirs=p.Heirs)&&decide (s.Head.Wait=p.Wait))))=b2
 generalize (!s.Head.Frozen||decide (s.Head.Keys=p.Keys))=b3
 generalize decide (s.Head.Frozen=p.Frozen)=b4
 cases sNo p.Judge<;>cases b2<;>cases b3<;>cases b4<;>simp
theorem head_kind {h:GHead} (hh:sIsHead h=true):h.Kind=1∨h.Kind=2∨h.Kind=3:=by
 unfold sIsHead at hh
 simp only [Bool.and_eq_true,inR,decide_eq_true_eq] at hh
 omega
theorem codeStep {c:Int} {b:Bool} {k:List PV→Prop}:(if decide (c=1)=true then (if (!b)=true then k [I 7] else k [I c]) else k [I c])↔k [I (if decide (c=1)=true then (if b=true then 1 else 7) else c)]:=by
 by_cases h:c=1
 ·subst h;cases b<;>simp
 ·simp [h]
theorem Qds_n (p:GHead) (s:GSigned) (hp:mHead p≤1048576) (hs:mSigned s≤1048576) (k):call Qds [.agg (eHead p),.agg (eSigned s)] k=k [I (sCode p s)]:=call_of (fun k=>by
 obtain ⟨h1,h2,h3⟩:=signed_le hs
 obtain ⟨q1,q2,q3⟩:=keys_le hp
 have e1:=Qcz_n p hp
 have e2:=Qcz_n s.Head h1
 have e3:=Qdl_n p hp
 have e4:=Qdm_n p s.Head
 have e5:=Qdq_n p s.Head hp h1
 have e6:=Qdr_n p s.Head hp h1
 have e7:=Qde_n s.Head h1
 have e8:=Qdj_n p.Keys (headInts s.Head) s.Sigs q1 h3 h2
 have e9:=Qdj_n p.Heirs (headInts s.Head) s.Sigs q2 h3 h2
 have e10:=Qdj_n p.Judge (headInts s.Head) s.Sigs q3 h3 h2
 simp only [Qds,un,cur0,e1,e2,e3,e4,e5,e6,e7,e8,e9,e10,unP_not,binP_eql,binP_neq,binP_add,binP_lss,bne,beqI,atP_zero,iteP_eq,rt_eq,scs_sc,scs_nil,flat_int,true_and,and_true,codeStep]
 refine stepJ fun _=>stepJ fun hh=>?_
 have hk:=head_kind hh
 have hc:∀{b1 b2 b3 b4:Bool} {P:Prop} {c:Int},(P↔k [I c])→((if (!b1)=true then k [I 3] else if (!b2)=true then k [I 3] else if (!b3)=true then k [I 3] else if (!b4)=true then k [I 3] else P)↔k [I (if (b1&&(b2&&(b3&&b4)))=true then c else 3)]):=by
  intro b1 b2 b3 b4 P c h
  cases b1<;>cases b2<;>cases b3<;>cases b4<;>simp [h]
 rw [show decide (s.Head.Time<p.Time)=!decide (p.Time≤s.Head.Time) by by_cases h:p.Time≤s.Head.Time<;>simp [h]<;>omega]
 refine hc ?_
 rw [code_owner,code_heir,code_judge]
 rcases hk with hk | hk | hk<;>simp [hk,sBy]
 all_goals exact Iff.rfl) k
theorem Qdt_n (p:GHead) (s:GSigned) (hp:mHead p≤1048576) (hs:mSigned s≤1048576) (k):call Qdt [.agg (eHead p),.agg (eSigned s)] k=k [.bool (sMay p s)]:=call_of (fun k=>by
 have e:=Qds_n p s hp hs
 simp only [Qdt,un,cur0,e,binP_eql,beqI,atP_zero,rt_eq,scs_sc,scs_nil,flat_bool,true_and,and_true,sMay]) k
def findX {α:Type} (p:Nat→α→Bool):Nat→List α→Int
 | _,[]=>-1
 | i,x::l=>if p i x=true then (i:Int) else findX p (i+1) l
theorem exitL_findX {α:Type} (p:Nat→α→Bool) (Q:Int→Prop):∀(i:Nat) (l:List α),exitL p (fun i _=>Q i) (Q (-1)) i l=Q (findX p i l)
 | _,[]=>rfl
 | i,x::l=>by
  rw [exitL,exitL_findX p Q (i+1) l,findX]
  split<;>rfl
theorem lp_findX {α:Type} {R:(List PV→Prop)→List PV→Prop} {v:List PV} {Q:Int→Prop} (l:List α) (V:Nat→List PV) (p:Nat→α→Bool) (hv:v=V 0)
 (h:∀i x,l[i]? = some x→i<l.length→∀K,R K (V i)↔if p i x=true then Q i else K (V (i+1))) (hf:∀K,R K (V l.length)↔Q (-1)):lp R v↔Q (findX p 0 l):=by
 have:=lp_exit l V p (fun i _=>Q i) hv (fun i x hx=>h i x hx (lt_of_get hx)) hf
 rwa [exitL_findX] at this
def wrongP (l:List GSigned) (i:Nat) (x:GSigned):Bool:=if i=0 then !sIsFirst x else match l[i-1]? with | some y=>!sMay y.Head x | none=>true
def sFW (l:List GSigned):Int:=findX (wrongP l) 0 l
theorem chain_le {l:List GSigned} (h:mSignedS l≤1048576):l.length≤1048576∧∀x∈l,mSigned x≤1048576:=by
 unfold mSignedS at h
 refine ⟨by omega,fun x hx=>?_⟩
 have:=sumN_mem (s:=mSigned) hx
 omega
theorem Qgx_n (l:List GSigned) (h:mSignedS l≤1048576) (k):call Qgx [.one (.list 17 (l.map eSigned))] k=k [I (sFW l)]:=call_of (fun k=>by
 obtain ⟨hl,hx0⟩:=chain_le h
 simp only [Qgx,lenP_eq,List.length_map,rt_eq,scs_sc,scs_nil,flat_int,true_and]
 refine lp_findX (Q:=fun i=>k [I i]) l (fun i=>[.list 17 (l.map eSigned),I 0,.list 17 (l.map eSigned),I l.length,I i]) (wrongP l) rfl (fun i x hx hi K=>?_) fun K=>?_
 ·have hm:=hx0 x (mem_get hx)
  by_cases h0:i=0
  ·subst h0
   have e:=Qgm_n x hm
   simp [-getElem?_pos,Qgx_r0,hx,hi,e,wrongP,wr_eq]
  ·obtain ⟨y,hy⟩:∃y,l[i-1]? = some y:=⟨l[i-1],List.getElem?_eq_getElem (by omega)⟩
   have e:=Qgw_n y.Head x (signed_le (hx0 y (mem_get hy))).1 hm
   simp [-getElem?_pos,Qgx_r0,hx,hi,hy,h0,e,wrongP,show ¬(i:Int)=0 by omega,show 0<i by omega,wr_pred (show 0<i by omega) (show i<1000000000000000000 by omega),wr_succ (show i<1000000000000000000 by omega)]
 ·simp [Qgx_r0]) k
theorem Qdu_n (l:List GSigned) (h:mSignedS l≤1048576) (k):call Qdu [.one (.list 17 (l.map eSigned))] k=k [I (sFW l)]:=call_of (fun k=>by
 obtain ⟨hl,hx0⟩:=chain_le h
 simp only [Qdu,lenP_eq,List.length_map,rt_eq,scs_sc,scs_nil,flat_int,true_and]
 refine lp_findX (Q:=fun i=>k [I i]) l (fun i=>[.list 17 (l.map eSigned),I 0,I i]) (wrongP l) rfl (fun i x hx hi K=>?_) fun K=>?_
 ·have hm:=hx0 x (mem_get hx)
  by_cases h0:i=0
  ·subst h0
   have e:=Qdk_n x hm
   simp [-getElem?_pos,Qdu_r0,hx,hi,e,wrongP,wr_eq]
  ·obtain ⟨y,hy⟩:∃y,l[i-1]? = some y:=⟨l[i-1],List.getElem?_eq_getElem (by omega)⟩
   have e:=Qdt_n y.Head x (signed_le (hx0 y (mem_get hy))).1 hm
   simp [-getElem?_pos,Qdu_r0,hx,hi,hy,h0,e,wrongP,show ¬(i:Int)=0 by omega,show 0<i by omega,wr_pred (show 0<i by omega) (show i<1000000000000000000 by omega),wr_succ (show i<1000000000000000000 by omega)]
 ·simp [Qdu_r0]) k
def sIsChain (l:List GSigned):Bool:=inR l.length 1 12&&decide (sFW l<0)
theorem Qgy_n (l:List GSigned) (h:mSignedS l≤1048576) (k):call Qgy [.one (.list 17 (l.map eSigned))] k=k [.bool (sIsChain l)]:=call_of (fun k=>by
 have e:=Qgx_n l h
 simp only [Qgy,lenP_eq,List.length_map,Qfl_n,e,binP_lss,atP_zero,iteP_eq,rt_eq,scs_sc,scs_nil,flat_bool,true_and,and_true]
 exact stepB fun _=>Iff.rfl) k
theorem Qdv_n (l:List GSigned) (h:mSignedS l≤1048576) (k):call Qdv [.one (.list 17 (l.map eSigned))] k=k [.bool (sIsChain l)]:=call_of (fun k=>by
 have e:=Qdu_n l h
 simp only [Qdv,lenP_eq,List.length_map,Qcw_n,e,binP_lss,atP_zero,iteP_eq,rt_eq,scs_sc,scs_nil,flat_bool,true_and,and_true]
 exact stepB fun _=>Iff.rfl) k
theorem chain_has {l:List GSigned} (h:sIsChain l=true):∃p,l[l.length-1]? = some p∧0<l.length:=by
 unfold sIsChain inR at h
 simp only [Bool.and_eq_true,decide_eq_true_eq] at h
 exact ⟨l[l.length-1],List.getElem?_eq_getElem (by omega),by omega⟩
def zHead:GHead:=⟨0,0,0,0,0,0,0,0,⟨[],0⟩,⟨[],0⟩,0,⟨[],0⟩,false⟩
def sLast (l:List GSigned):Option GHead:=if sIsChain l=true then (l[l.length-1]?).map (·.Head) else none
def oHead:Option GHead→List PV
 | some h=>eHead h++[.bool true]
 | none=>eHead zHead++[.bool false]
theorem Qdw_n (l:List GSigned) (h:mSignedS l≤1048576) (k):call Qdw [.one (.list 17 (l.map eSigned))] k=k (oHead (sLast l)):=call_of (fun k=>by
 obtain ⟨hl,hx0⟩:=chain_le h
 have e:=Qdv_n l h
 unfold sLast
 cases hc:sIsChain l with
 | false=>simp [Qdw,e,hc,oHead,zHead,ints]
 | true =>
  obtain ⟨p,hp,h0⟩:=chain_has hc
  have e3:=Qch_n p.Head (signed_le (hx0 p (mem_get hp))).1
  simp [-getElem?_pos,Qdw,e,hc,e3,oHead,hp,wr_pred h0 (show l.length<1000000000000000000 by omega)]) k
def azB (x:UInt8):Bool:=(decide (97≤(x.toNat:Int))&&decide ((x.toNat:Int)≤122))||(decide (48≤(x.toNat:Int))&&decide ((x.toNat:Int)≤57))
def dashB (x:UInt8):Bool:=decide ((x.toNat:Int)=45)
def badL (n:Nat) (i:Nat) (x:UInt8):Bool:=!(azB x||(dashB x&&(decide (0<i)&&decide (i+1<n))))
def sLabel (s:ByteArray):Bool:=!anyI (badL s.data.toList.length) 0 s.data.toList&&inR s.size 1 8
theorem size_data (s:ByteArray):s.size=s.data.toList.length:=rfl
theorem Qha_n (s:ByteArray) (h:s.size≤1048576) (k):call Qha [.one (.str s)] k=k [.bool (sLabel s)]:=call_of (fun k=>by
 simp only [Qha,lenS_eq,rt_eq,scs_sc,scs_nil,flat_bool,true_and,Qfl_n,atP_zero]
 refine (lp_anyI (P:=k [.bool false]) (fin:=k [.bool (inR s.size 1 8)]) s.data.toList (fun i=>[.str s,.bool false,I s.size,I i]) (badL s.data.toList.length) rfl (fun i x hx hi K=>?_) fun K=>?_).trans ?_
 ·have hw:=wr_succ (show i<1000000000000000000 by rw [size_data] at h;omega)
  have hl:IntKind.i64.wrap ((s.size:Int)-1)=(s.size:Int)-1:=wr_eq (by omega) (by omega)
  have hs:=size_data s
  simp only [Qha_r0,un,cur0,binP_lss,binP_leq,binP_geq,binP_gtr,binP_eql,binP_add,binP_sub,lenS_eq,charP_eq,Int.toNat_natCast,hx,oP,iteP_eq,unP_not,beqI,hw,hl,show decide ((i:Int)<s.size)=true by rw [hs];simp;omega,if_true,show (0:Int)≤i by omega,true_and]
  unfold badL azB dashB
  have d1:decide ((i:Int)<(s.size:Int)-1)=decide (i+1<s.data.toList.length):=by apply decide_eq_decide.2;rw [hs];omega
  have d2:decide ((0:Int)<(i:Int))=decide (0<i):=by apply decide_eq_decide.2;omega
  rw [d1,d2]
  generalize decide (97≤(x.toNat:Int))=b1
  generalize decide ((x.toNat:Int)≤122)=b2
  generalize decide (48≤(x.toNat:Int))=b3
  generalize decide ((x.toNat:Int)≤57)=b4
  generalize decide ((x.toNat:Int)=45)=b5
  generalize decide (0<i)=b6
  generalize decide (i+1<s.data.toList.length)=b7
  cases b1<;>cases b2<;>cases b3<;>cases b4<;>cases b5<;>cases b6<;>cases b7<;>simp
 ·simp only [Qha_r0,un,cur0,binP_lss,iteP_eq,show decide (((s.data.toList.length:Nat):Int)<s.size)=false by rw [size_data];simp,lenS_eq,Qfl_n,atP_zero]
  simp
 ·unfold sLabel
  cases anyI (badL s.data.toList.length) 0 s.data.toList<;>simp) k
theorem label_eq (L:List UInt8) (x y:UInt8) (hx:L[0]? = some x) (hy:L[L.length-1]? = some y):anyI (badL L.length) 0 L=(dashB x||(dashB y||L.any fun b=>!(azB b||dashB b))):=by
 rw [Bool.eq_iff_iff]
 constructor
 ·intro h
  rcases hd:(dashB x||(dashB y||L.any fun b=>!(azB b||dashB b))) with _ | _
  ·exfalso
   simp only [Bool.or_eq_false_iff] at hd
   obtain ⟨d1,d2,d3⟩:=hd
   have hn:anyI (badL L.length) 0 L=false:=by
    rw [anyI_false]
    intro j b hb
    have hj:=lt_of_get hb
    have h3:=List.any_eq_false.1 d3 b (List.mem_of_getElem? hb)
    unfold badL
    by_cases ha:azB b=true
    ·simp [ha]
    ·have hdb:dashB b=true:=by cases h:dashB b<;>simp [ha,h] at h3 ⊢
     have j0:j≠0:=by rintro rfl;rw [hx] at hb;injection hb with hb;subst hb;rw [d1] at hdb;cases hdb
     have j1:j≠L.length-1:=by rintro rfl;rw [hy] at hb;injection hb with hb;subst hb;rw [d2] at hdb;cases hdb
     simp [hdb,show 0<j by omega,show j+1<L.length by omega]
   rw [hn] at h;cases h
  ·rfl
 ·intro h
  cases hn:anyI (badL L.length) 0 L with
  | true=>rfl
  | false =>
   exfalso
   rw [anyI_false] at hn
   have hl:=lt_of_get hy
   have az_dash:∀b,dashB b=true→azB b=false:=by
    intro b hb
    unfold dashB at hb
    unfold azB
    simp only [decide_eq_true_eq] at hb
    simp [hb]
   simp only [Bool.or_eq_true] at h
   rcases h with h | h | h
   ·have:=hn 0 x hx
    simp [badL,h,az_dash x h] at this
   ·have:=hn _ y hy
    simp [badL,h,az_dash y h] at this
    omega
   ·obtain ⟨b,hb,h2⟩:=List.any_eq_true.1 h
    obtain ⟨j,hj⟩:=List.mem_iff_getElem?.1 hb
    have:=hn j b hj
    unfold badL at this
    simp only [Bool.not_eq_true',Bool.or_eq_false_iff] at h2
    simp [h2.1,h2.2] at this
theorem Qdx_n (s:ByteArray) (h:s.size≤1048576) (k):call Qdx [.one (.str s)] k=k [.bool (sLabel s)]:=call_of (fun k=>by
 have hs:=size_data s
 unfold sLabel
 cases hr:inR s.size 1 8 with
 | false=>simp [Qdx,Qcw_n,hr]
 | true =>
  have h1:1≤s.size:=by unfold inR at hr;simp at hr;omega
  obtain ⟨x,hx⟩:∃x,s.data.toList[0]? = some x:=⟨s.data.toList[0]'(by omega),List.getElem?_eq_getElem (by omega)⟩
  obtain ⟨y,hy⟩:∃y,s.data.toList[s.data.toList.length-1]? = some y:=⟨_,List.getElem?_eq_getElem (by omega)⟩
  have hl:IntKind.i64.wrap ((s.size:Int)-1)=((s.size-1:Nat):Int):=by rw [wr_eq (by omega) (by omega)];omega
  have hy':s.data.toList[s.size-1]? = some y:=hy
  rw [label_eq _ x y hx hy]
  simp only [Qdx,lenS_eq,Qcw_n,hr,unP_not,atP_zero,iteP_eq,binP_sub,hl,binP_eql,beqI,charP_eq,Int.toNat_natCast,show ((0:Int)).toNat=0 from rfl,hx,hy',oP,rt_eq,scs_sc,scs_nil,flat_bool,true_and,Bool.not_true,Bool.false_eq_true,if_false,show (0:Int)≤0 by omega,show (0:Int)≤((s.size-1:Nat):Int) by omega]
  rw [show decide ((x.toNat:Int)=45)=dashB x from rfl,show decide ((y.toNat:Int)=45)=dashB y from rfl]
  have key:lp (fun L w=>Qdx_r0 w L (k [PV.bool false]) fun q29 q30 q31=>k [PV.bool true]) [PV.str s,PV.bool false,I 0]↔k [.bool (!(s.data.toList.any fun b=>!(azB b||dashB b)))]:=by
   refine (lp_any (P:=k [.bool false]) (fin:=k [.bool true]) s.data.toList (fun i=>[.str s,.bool false,I i]) (fun b=>!(azB b||dashB b)) rfl (fun i x hx hi K=>?_) fun K=>?_).trans ?_
   ·have hw:=wr_succ (show i<1000000000000000000 by omega)
    simp only [Qdx_r0,un,cur0,binP_lss,binP_leq,binP_geq,binP_gtr,binP_eql,binP_neq,binP_add,lenS_eq,charP_eq,Int.toNat_natCast,hx,oP,iteP_eq,unP_not,bne,beqI,hw,show decide ((i:Int)<s.size)=true by rw [hs];simp;omega,if_true,show (0:Int)≤i by omega,true_and]
    unfold azB dashB
    rw [show decide ((x.toNat:Int)<97)=!decide (97≤(x.toNat:Int)) by by_cases h:97≤(x.toNat:Int)<;>simp [h]<;>omega,
     show decide ((x.toNat:Int)<48)=!decide (48≤(x.toNat:Int)) by by_cases h:48≤(x.toNat:Int)<;>simp [h]<;>omega,
     show decide (122<(x.toNat:Int))=!decide ((x.toNat:Int)≤122) by by_cases h:(x.toNat:Int)≤122<;>simp [h]<;>omega,
     show decide (57<(x.toNat:Int))=!decide ((x.toNat:Int)≤57) by by_cases h:(x.toNat:Int)≤57<;>simp [h]<;>omega]
    generalize decide (97≤(x.toNat:Int))=b1
    generalize decide ((x.toNat:Int)≤122)=b2
    generalize decide (48≤(x.toNat:Int))=b3
    generalize decide ((x.toNat:Int)≤57)=b4
    generalize decide ((x.toNat:Int)=45)=b5
    cases b1<;>cases b2<;>cases b3<;>cases b4<;>cases b5<;>simp
   ·simp only [Qdx_r0,un,cur0,binP_lss,lenS_eq,iteP_eq,show decide (((s.data.toList.length:Nat):Int)<s.size)=false by rw [size_data];simp]
    simp
   ·cases (s.data.toList.any fun b=>!(azB b||dashB b))<;>simp
  rw [propext key]
  cases dashB x<;>cases dashB y<;>simp) k
def sIsPath (p:List ByteArray):Bool:=inR p.length 1 4&&!(p.any fun s=>!sLabel s)
theorem path_le {p:List ByteArray} (h:p.length+sumN ByteArray.size p≤1048576):p.length≤1048576∧∀s∈p,s.size≤1048576:=by
 refine ⟨by omega,fun s hs=>?_⟩
 have:=sumN_mem (s:=ByteArray.size) hs
 omega
theorem Qhe_n (p:List ByteArray) (h:p.length+sumN ByteArray.size p≤1048576) (k):call Qhe [.one (strs p)] k=k [.bool (sIsPath p)]:=call_of (fun k=>by
 obtain ⟨hl,hs⟩:=path_le h
 have e:∀k,call Qhc [.one (strs p),.fn 282 []] k=k [I (idx (fun s=>!sLabel s) p)]:=call_of (fun k=>by
  simp [Qhc]
  refine lp_find (Q:=fun i=>k [I i]) p (fun i=>[strs p,I 0,I p.length,I i]) (fun s=>!sLabel s) rfl (fun i x hx hi K=>?_) fun K=>?_
  ·have e1:∀k,call Qhb [.one (.str x)] k=k [.bool (!sLabel x)]:=call_of (fun k=>by simp [Qhb,Qha_n x (hs x (mem_get hx))])
   simp [-getElem?_pos,Qhc_r0,hx,hi,e1,wr_succ (show i<1000000000000000000 by omega)]
  ·simp [Qhc_r0])
 have e2:∀k,call Qhd [.one (strs p),.fn 282 []] k=k [.bool (p.any fun s=>!sLabel s)]:=call_of (fun k=>by simp [Qhd,e,idx_any])
 simp only [Qhe,lenP_eq,List.length_map,Qfl_n,e2,unP_not,atP_zero,iteP_eq,rt_eq,scs_sc,scs_nil,flat_bool,true_and]
 exact stepB fun _=>Iff.rfl) k
theorem Qdy_n (p:List ByteArray) (h:p.length+sumN ByteArray.size p≤1048576) (k):call Qdy [.one (strs p)] k=k [.bool (sIsPath p)]:=call_of (fun k=>by
 obtain ⟨hl,hs⟩:=path_le h
 simp only [Qdy,rt_eq,scs_sc,scs_nil,flat_bool,true_and,lenP_eq,List.length_map,Qcw_n,atP_zero]
 refine (lp_any (P:=k [.bool false]) (fin:=k [.bool (inR p.length 1 4)]) p (fun i=>[strs p,.bool false,I i]) (fun s=>!sLabel s) rfl (fun i x hx hi K=>?_) fun K=>?_).trans ?_
 ·have e:=Qdx_n x (hs x (mem_get hx))
  simp [-getElem?_pos,Qdy_r0,hx,hi,e,wr_succ (show i<1000000000000000000 by omega)]
 ·simp [Qdy_r0,Qcw_n]
 ·unfold sIsPath
  cases (p.any fun s=>!sLabel s)<;>simp) k
def sIsEntry (e:GEntry):Bool:=sLabel e.Label&&(if decide (e.Kind=1)=true then inR e.Value 0 999999&&decide (e.Path.length=0) else if decide (e.Kind=2)=true then inR e.Value 0 2147483646&&decide (e.Path.length=0) else if decide (e.Kind=3)=true then inR e.Value 0 2147483646&&sIsPath e.Path else false)
theorem entry_le {e:GEntry} (h:mEntry e≤1048576):e.Label.size≤1048576∧e.Path.length+sumN ByteArray.size e.Path≤1048576:=by unfold mEntry at h;omega
theorem len0 (n:Nat):((n:Int)==0)=decide (n=0):=by rw [beqI];apply decide_eq_decide.2;omega
theorem Qfm_n (x:Int) (k):call Qfm [.one (I x)] k=k [.bool (inR x 0 2147483646)]:=call_of (fun k=>by simp [Qfm,Qfl_n]) k
theorem Qhf_n (e:GEntry) (h:mEntry e≤1048576) (k):call Qhf [.agg (eEntry e)] k=k [.bool (sIsEntry e)]:=call_of (fun k=>by
 obtain ⟨h1,h2⟩:=entry_le h
 have e1:=Qha_n e.Label h1
 have e2:=Qhe_n e.Path h2
 simp only [Qhf,un,cur0,e1,e2,Qfl_n,Qfm_n,lenP_eq,List.length_map,binP_eql,len0,beqI,unP_not,atP_zero,iteP_eq,rt_eq,scs_sc,scs_nil,flat_bool,true_and,sIsEntry]
 refine stepN fun _=>?_
 cases decide (e.Kind=1)<;>cases decide (e.Kind=2)<;>cases decide (e.Kind=3)<;>cases inR e.Value 0 999999<;>cases inR e.Value 0 2147483646<;>simp) k
theorem Qdz_n (e:GEntry) (h:mEntry e≤1048576) (k):call Qdz [.agg (eEntry e)] k=k [.bool (sIsEntry e)]:=call_of (fun k=>by
 obtain ⟨h1,h2⟩:=entry_le h
 have e1:=Qdx_n e.Label h1
 have e2:=Qdy_n e.Path h2
 simp only [Qdz,un,cur0,e1,e2,Qcw_n,lenP_eq,List.length_map,binP_eql,len0,beqI,unP_not,atP_zero,iteP_eq,rt_eq,scs_sc,scs_nil,flat_bool,true_and,sIsEntry]
 cases sLabel e.Label<;>cases decide (e.Kind=1)<;>cases decide (e.Kind=2)<;>cases decide (e.Kind=3)<;>cases inR e.Value 0 999999<;>cases inR e.Value 0 2147483646<;>simp) k
theorem cmp_neg:∀(a b:List UInt8),Go.Lib.compareBytes b a=-Go.Lib.compareBytes a b
 | [],[]=>rfl
 | [],_::_=>rfl
 | _::_,[]=>rfl
 | x::a,y::b=>by
  have ih:=cmp_neg a b
  unfold Go.Lib.compareBytes
  by_cases h1:x<y
  ·have:¬y<x:=by intro h;exact absurd (UInt8.lt_trans h1 h) (UInt8.lt_irrefl x)
   simp [h1,this]
  ·by_cases h2:y<x
   ·simp [h1,h2]
   ·simp [h1,h2,ih]
theorem cmp_range:∀(a b:List UInt8),Go.Lib.compareBytes a b=-1∨Go.Lib.compareBytes a b=0∨Go.Lib.compareBytes a b=1
 | [],[]=>.inr (.inl rfl)
 | [],_::_=>.inl rfl
 | _::_,[]=>.inr (.inr rfl)
 | x::a,y::b=>by
  unfold Go.Lib.compareBytes
  split
  ·exact .inl rfl
  ·split
   ·exact .inr (.inr rfl)
   ·exact cmp_range a b
theorem cmp_less:∀(a b:List UInt8),Op.bytesLess a b=decide (Go.Lib.compareBytes a b=-1)
 | [],[]=>by simp [Op.bytesLess,Go.Lib.compareBytes]
 | [],_::_=>by simp [Op.bytesLess,Go.Lib.compareBytes]
 | _::_,[]=>by simp [Op.bytesLess,Go.Lib.compareBytes]
 | x::a,y::b=>by
  have ih:=cmp_less a b
  unfold Op.bytesLess Go.Lib.compareBytes
  by_cases h1:x<y
  ·simp [h1]
  ·by_cases h2:y<x
   ·have:¬x=y:=by rintro rfl;exact UInt8.lt_irrefl _ h2
    simp [h1,h2,this]
   ·have:x=y:=by
     apply UInt8.toNat_inj.1
     rw [UInt8.lt_iff_toNat_lt] at h1 h2
     omega
    simp [h1,h2,this,ih]
theorem cmp_eq0:∀(a b:List UInt8),(a==b)=decide (Go.Lib.compareBytes a b=0)
 | [],[]=>by simp [Go.Lib.compareBytes]
 | [],_::_=>by simp [Go.Lib.compareBytes]
 | _::_,[]=>by simp [Go.Lib.compareBytes]
 | x::a,y::b=>by
  have ih:=cmp_eq0 a b
  unfold Go.Lib.compareBytes
  rw [List.cons_beq_cons]
  by_cases h1:x<y
  ·have:¬x=y:=by rintro rfl;exact UInt8.lt_irrefl _ h1
   simp [h1,this]
  ·by_cases h2:y<x
   ·have:¬x=y:=by rintro rfl;exact UInt8.lt_irrefl _ h2
    simp [h1,h2,this]
   ·have:x=y:=by
     apply UInt8.toNat_inj.1
     rw [UInt8.lt_iff_toNat_lt] at h1 h2
     omega
    simp [h1,h2,this,ih]
def cmpS (s t:ByteArray):Int:=Go.Lib.compareBytes s.data.toList t.data.toList
theorem Qhi_n (s t:ByteArray) (k):call Qhi [.one (.str s),.one (.str t)] k=k [I (cmpS s t)]:=call_of (fun k=>by
 have e:∀k,call Qju [.one (.str s),.one (.str t)] k=k [I (cmpS s t)]:=call_of (fun k=>by simp [Qju,cmpS])
 have e2:∀k,call Qhh [.one (.str s),.one (.str t)] k=k [I (cmpS s t)]:=call_of (fun k=>by simp [Qhh,e])
 simp [Qhi,e2]) k
theorem Qea_n (s t:ByteArray) (k):call Qea [.one (.str s),.one (.str t)] k=k [I (cmpS s t)]:=call_of (fun k=>by
 simp only [Qea,binP,toList_data,cmp_less,cmp_eq0,iteP_eq,rt_eq,scs_sc,scs_nil,flat_int,true_and]
 unfold cmpS
 rcases cmp_range s.data.toList t.data.toList with h | h | h<;>simp [h]) k
def badE (l:List GEntry) (i:Nat) (x:GEntry):Bool:=!sIsEntry x||(decide (0<i)&&(match l[i-1]? with | some y=>decide (cmpS x.Label y.Label≤0) | none=>false))
def sAreEntries (l:List GEntry):Bool:=!anyI (badE l) 0 l&&decide ((l.length:Int)≤12)
theorem Qhj_n (l:List GEntry) (h:mEntryS l≤1048576) (k):call Qhj [.one (.list 4 (l.map eEntry))] k=k [.bool (sAreEntries l)]:=call_of (fun k=>by
 obtain ⟨hl,hx0⟩:=entries_le h
 simp only [Qhj,lenP_eq,List.length_map,rt_eq,scs_sc,scs_nil,flat_bool,true_and,binP_leq]
 refine (lp_anyI (P:=k [.bool false]) (fin:=k [.bool (decide ((l.length:Int)≤12))]) l (fun i=>[.list 4 (l.map eEntry),.bool false,.list 4 (l.map eEntry),I l.length,I i]) (badE l) rfl (fun i x hx hi K=>?_) fun K=>?_).trans ?_
 ·have e:=Qhf_n x (hx0 x (mem_get hx))
  by_cases h0:i=0
  ·subst h0
   simp [-getElem?_pos,Qhj_r0,hx,hi,e,badE,wr_eq]
  ·obtain ⟨y,hy⟩:∃y,l[i-1]? = some y:=⟨l[i-1],List.getElem?_eq_getElem (by omega)⟩
   have c:=cmp_neg x.Label.data.toList y.Label.data.toList
   have r:=cmp_range x.Label.data.toList y.Label.data.toList
   have e2:=Qhi_n x.Label y.Label
   simp [-getElem?_pos,Qhj_r0,hx,hi,hy,h0,e,e2,badE,show 0<i by omega,wr_pred (show 0<i by omega) (show i<1000000000000000000 by omega),wr_succ (show i<1000000000000000000 by omega)]
   cases sIsEntry x<;>by_cases h2:cmpS x.Label y.Label≤0<;>simp [h2]
 ·simp [Qhj_r0]
 ·unfold sAreEntries
  cases anyI (badE l) 0 l<;>simp) k
theorem Qeb_n (l:List GEntry) (h:mEntryS l≤1048576) (k):call Qeb [.one (.list 4 (l.map eEntry))] k=k [.bool (sAreEntries l)]:=call_of (fun k=>by
 obtain ⟨hl,hx0⟩:=entries_le h
 simp only [Qeb,lenP_eq,List.length_map,rt_eq,scs_sc,scs_nil,flat_bool,true_and,binP_leq]
 refine (lp_anyI (P:=k [.bool false]) (fin:=k [.bool (decide ((l.length:Int)≤12))]) l (fun i=>[.list 4 (l.map eEntry),.bool false,I i]) (badE l) rfl (fun i x hx hi K=>?_) fun K=>?_).trans ?_
 ·have e:=Qdz_n x (hx0 x (mem_get hx))
  by_cases h0:i=0
  ·subst h0
   simp [-getElem?_pos,Qeb_r0,hx,hi,e,badE,wr_eq]
  ·obtain ⟨y,hy⟩:∃y,l[i-1]? = some y:=⟨l[i-1],List.getElem?_eq_getElem (by omega)⟩
   have c:=cmp_neg x.Label.data.toList y.Label.data.toList
   have r:=cmp_range x.Label.data.toList y.Label.data.toList
   have e2:=Qea_n y.Label x.Label
   simp [-getElem?_pos,Qeb_r0,hx,hi,hy,h0,e,e2,badE,show 0<i by omega,wr_pred (show 0<i by omega) (show i<1000000000000000000 by omega),wr_succ (show i<1000000000000000000 by omega)]
   have c2:cmpS y.Label x.Label=-cmpS x.Label y.Label:=c
   have r2:cmpS x.Label y.Label=-1∨cmpS x.Label y.Label=0∨cmpS x.Label y.Label=1:=r
   rw [c2]
   cases sIsEntry x<;>rcases r2 with r2 | r2 | r2<;>simp [r2]
 ·simp [Qeb_r0]
 ·unfold sAreEntries
  cases anyI (badE l) 0 l<;>simp) k
def pathInts (p:List ByteArray):List Int:=p.flatMap sLabelInts
def entryInts (e:GEntry):List Int:=sLabelInts e.Label++([e.Kind,e.Value,(e.Path.length:Int)]++pathInts e.Path)
theorem pathInts_len:∀(p:List ByteArray),(pathInts p).length=p.length+sumN ByteArray.size p
 | []=>rfl
 | s::p=>by
  have:=pathInts_len p
  unfold pathInts at this ⊢
  simp only [List.flatMap_cons,List.length_append,List.length_cons,sLabelInts_len,sumN,this]
  omega
theorem entryInts_len (e:GEntry):(entryInts e).length=mEntry e+4:=by
 simp only [entryInts,List.length_append,sLabelInts_len,pathInts_len,List.length_cons,List.length_nil,mEntry]
 omega
theorem Qhm_n (e:GEntry) (h:mEntry e≤1048576) (k):call Qhm [.agg (eEntry e)] k=k [ints (entryInts e)]:=call_of (fun k=>by
 obtain ⟨h1,h2⟩:=entry_le h
 obtain ⟨hl,hs⟩:=path_le h2
 have e1:=Qhl_n e.Label (show e.Label.size<1000000000 by omega)
 have e2:=sLabelInts_len e.Label
 simp only [Qhm,un,cur0,e1,lenP_eq,List.length_map,atP_zero,fc_int,true_and,show (3:Nat)≤16777216 by omega,ints,catP,e2,List.length_cons,List.length_nil,show e.Label.size+1+(0+1+1+1)<1073741824 by omega,rt_eq,scs_own,scs_nil]
 refine lp_list e.Path (fun i=>[strs e.Path,I e.Path.length,I i,.list 1 [],ints (sLabelInts e.Label++([e.Kind,e.Value,(e.Path.length:Int)]++pathInts (e.Path.take i)))]) (by simp [ints,pathInts]) (fun i x hx hi K=>?_) fun K=>?_
 ·have e3:=Qhl_n x (show x.size<1000000000 by have:=hs x (mem_get hx);omega)
  have e4:pathInts (e.Path.take (i+1))=pathInts (e.Path.take i)++sLabelInts x:=by
   unfold pathInts;rw [take_snoc hx,List.flatMap_append];simp
  have e5:(pathInts (e.Path.take i)).length≤2097152:=by
   rw [pathInts_len]
   have:=sumN_take_le ByteArray.size e.Path i
   have:(e.Path.take i).length≤e.Path.length:=by simp;omega
   omega
  have e6:=sLabelInts_len x
  have e7:=hs x (mem_get hx)
  rw [e4]
  generalize pathInts (e.Path.take i)=A at e5
  simp [-getElem?_pos,Qhm_r0,hx,hi,e3,ints,catP,e2,e6,wr_succ (show i<1000000000000000000 by omega)]
  try (intros;omega)
 ·simp [Qhm_r0,entryInts,ints]) k
theorem Qhn_n (e:GEntry) (h:mEntry e≤1048576) (k):call Qhn [.agg (eEntry e)] k=k [I (sHash (227::entryInts e))]:=call_of (fun k=>by
 have hl:=entryInts_len e
 have e1:=Qhm_n e h
 have e2:=Qfx_n (227::entryInts e) (by simp;omega)
 have e3:PV.list 1 ([I 227]::(entryInts e).map rI)=ints (227::entryInts e):=by simp [ints]
 simp [Qhn,fc_int,e1,catP,show 1+(entryInts e).length<1073741824 by omega]
 rw [e3,e2]
 simp
 try (intros;omega)) k
theorem Qee_n (e:GEntry) (h:mEntry e≤1048576) (k):call Qee [.agg (eEntry e)] k=k [ints (entryInts e)]:=call_of (fun k=>by
 obtain ⟨h1,h2⟩:=entry_le h
 obtain ⟨hl,hs⟩:=path_le h2
 have e1:=Qed_n e.Label (show e.Label.size<1000000000 by omega)
 have e2:=sLabelInts_len e.Label
 simp only [Qee,un,cur0,e1,lenP_eq,List.length_map,atP_zero,fc_int,true_and,show (3:Nat)≤16777216 by omega,ints,catP,e2,List.length_cons,List.length_nil,show e.Label.size+1+(0+1+1+1)<1073741824 by omega,rt_eq,scs_own,scs_nil]
 refine lp_list e.Path (fun i=>[I i,.str e.Label,I e.Kind,I e.Value,strs e.Path,.list 1 [],ints (sLabelInts e.Label++([e.Kind,e.Value,(e.Path.length:Int)]++pathInts (e.Path.take i)))]) (by simp [ints,pathInts]) (fun i x hx hi K=>?_) fun K=>?_
 ·have e3:=Qed_n x (show x.size<1000000000 by have:=hs x (mem_get hx);omega)
  have e4:pathInts (e.Path.take (i+1))=pathInts (e.Path.take i)++sLabelInts x:=by
   unfold pathInts;rw [take_snoc hx,List.flatMap_append];simp
  have e5:(pathInts (e.Path.take i)).length≤2097152:=by
   rw [pathInts_len]
   have:=sumN_take_le ByteArray.size e.Path i
   have:(e.Path.take i).length≤e.Path.length:=by simp;omega
   omega
  have e6:=sLabelInts_len x
  have e7:=hs x (mem_get hx)
  rw [e4]
  generalize pathInts (e.Path.take i)=A at e5
  simp [-getElem?_pos,Qee_r0,hx,hi,e3,ints,catP,e2,e6,wr_succ (show i<1000000000000000000 by omega)]
  try (intros;omega)
 ·simp [Qee_r0,entryInts,ints]) k
theorem Qef_n (e:GEntry) (h:mEntry e≤1048576) (k):call Qef [.agg (eEntry e)] k=k [I (sHash (227::entryInts e))]:=call_of (fun k=>by
 have hl:=entryInts_len e
 have e1:=Qee_n e h
 have e2:=Qdc_n (227::entryInts e) (by simp;omega)
 have e3:PV.list 1 ([I 227]::(entryInts e).map rI)=ints (227::entryInts e):=by simp [ints]
 simp [Qef,fc_int,e1,catP,show 1+(entryInts e).length<1073741824 by omega]
 rw [e3,e2]
 simp
 try (intros;omega)) k
def sLeaf (e:GEntry):Int:=sHash (227::entryInts e)
theorem Qho_n (l:List GEntry) (h:mEntryS l≤1048576) (k):call Qho [.one (.list 4 (l.map eEntry))] k=k [ints (l.map sLeaf)]:=call_of (fun k=>by
 obtain ⟨hl,hx0⟩:=entries_le h
 simp only [Qho,lenP_eq,List.length_map,rt_eq,scs_own,scs_nil,true_and,show (0:Nat)≤16777216 by omega]
 refine lp_list l (fun i=>[.list 4 (l.map eEntry),I l.length,I i,.list 1 [],ints ((l.take i).map sLeaf)]) (by simp [ints]) (fun i x hx hi K=>?_) fun K=>?_
 ·have e:=Qhn_n x (hx0 x (mem_get hx))
  simp [-getElem?_pos,Qho_r0,hx,hi,e,fc_int,ints,catP,take_snoc hx,show i<1073741823 by omega,show min i l.length<1073741823 by omega,sLeaf,wr_succ (show i<1000000000000000000 by omega)]
  try (intros;omega)
 ·simp [Qho_r0]) k
theorem Qeg_n (l:List GEntry) (h:mEntryS l≤1048576) (k):call Qeg [.one (.list 4 (l.map eEntry))] k=k [ints (l.map sLeaf)]:=call_of (fun k=>by
 obtain ⟨hl,hx0⟩:=entries_le h
 simp only [Qeg,lenP_eq,List.length_map,rt_eq,scs_own,scs_nil,true_and,show (0:Nat)≤16777216 by omega]
 refine lp_list l (fun i=>[.list 4 (l.map eEntry),I i,.list 1 [],ints ((l.take i).map sLeaf)]) (by simp [ints]) (fun i x hx hi K=>?_) fun K=>?_
 ·have e:=Qef_n x (hx0 x (mem_get hx))
  simp [-getElem?_pos,Qeg_r0,hx,hi,e,fc_int,ints,catP,take_snoc hx,show i<1073741823 by omega,show min i l.length<1073741823 by omega,sLeaf,wr_succ (show i<1000000000000000000 by omega)]
  try (intros;omega)
 ·simp [Qeg_r0]) k
def sNode (a b:Int):Int:=sHash [229,a,b]
def sAbove:List Int→List Int
 | a::b::l=>sNode a b::sAbove l
 | [a]=>[a]
 | []=>[]
theorem sAbove_app:∀(n:Nat) (m r:List Int),m.length=2*n→sAbove (m++r)=sAbove m++sAbove r
 | 0,[],r,_=>rfl
 | 0,_::_,r,h=>by simp at h
 | n+1,[],r,h=>by simp at h
 | n+1,[a],r,h=>by simp at h;omega
 | n+1,a::b::m,r,h=>by
  have:=sAbove_app n m r (by simp at h;omega)
  simp [sAbove,this]
theorem sAbove_len:∀(l:List Int),(sAbove l).length≤l.length∧(2≤l.length→(sAbove l).length<l.length)∧(1≤l.length→1≤(sAbove l).length)
 | []=>by simp [sAbove]
 | [a]=>by simp [sAbove]
 | a::b::l=>by
  have:=sAbove_len l
  simp only [sAbove,List.length_cons]
  omega
def sTopN:Nat→List Int→Int
 | 0,_=>0
 | n+1,l=>if 1<l.length then sTopN n (sAbove l) else l.headD 0
def sTop (l:List Int):Int:=if l.length=0 then sHash [229] else sTopN (l.length+1) l
def sRoot (l:List GEntry):Int:=sHash [231,(l.length:Int),sTop (l.map sLeaf)]
theorem Qhq_n (a b:Int) (k):call Qhq [.one (I a),.one (I b)] k=k [I (sNode a b)]:=call_of (fun k=>by
 have eh:∀(l:List Int),l.length<1000→∀k,call Qhp [.one (ints l)] k=k [I (sHash l)]:=fun l hl=>call_of (fun k=>by simp [Qhp,Qfx_n l (by omega)])
 have e:=eh [229,a,b] (by simp)
 rw [show ints [229,a,b]=PV.list 1 [[I 229],[I a],[I b]] from rfl] at e
 simp [Qhq,fc_int,e,sNode]) k
theorem Qhr_n (l:List Int) (h:l.length≤1048576) (k):call Qhr [.one (ints l)] k=k [ints (sAbove l)]:=call_of (fun k=>by
 simp only [Qhr,rt_eq,scs_own,scs_nil,true_and,show (0:Nat)≤16777216 by omega]
 refine lp_nat ((l.length+1) / 2) (fun j=>[ints l,I ((2*j:Nat):Int),.list 1 [],ints (sAbove (l.take (2*j)))]) (by simp [ints,sAbove]) (fun j hj K=>?_) fun K=>?_
 ·have hlt:2*j<l.length:=by omega
  obtain ⟨x,hx⟩:∃x,l[2*j]? = some x:=⟨l[2*j],List.getElem?_eq_getElem hlt⟩
  have t1:l.take (2*j+1)=l.take (2*j)++[x]:=take_snoc hx
  have hll:(l.take (2*j)).length=2*j:=by simp;omega
  have hA:(sAbove (l.take (2*j))).length≤1048576:=by have:=(sAbove_len (l.take (2*j))).1;omega
  have w1:IntKind.i64.wrap (((2*j:Nat):Int)+1)=((2*j+1:Nat):Int):=by rw [wr_eq (by omega) (by omega)];omega
  have w2:IntKind.i64.wrap (((2*j:Nat):Int)+2)=((2*(j+1):Nat):Int):=by rw [wr_eq (by omega) (by omega)];omega
  by_cases h2:2*j+1<l.length
  ·obtain ⟨y,hy⟩:∃y,l[2*j+1]? = some y:=⟨l[2*j+1],List.getElem?_eq_getElem h2⟩
   have t2:l.take (2*(j+1))=l.take (2*j)++[x,y]:=by
    rw [show 2*(j+1)=2*j+1+1 by omega,take_snoc hy,t1];simp
   rw [t2,sAbove_app j _ _ hll]
   generalize sAbove (l.take (2*j))=A at hA
   simp only [Qhr_r0,un,cur0,binP_lss,binP_add,lenP_eq,ints,List.length_map,iteP_eq,w1,w2,show decide (((2*j:Nat):Int)<(l.length:Int))=true by simp;omega,show decide (((2*j+1:Nat):Int)<(l.length:Int))=true by simp;omega,if_true,elemP,Int.toNat_natCast,List.getElem?_map,hx,hy,Option.map_some,show (0:Int)≤((2*j:Nat):Int) by omega,show (0:Int)≤((2*j+1:Nat):Int) by omega,true_and,atP_zero,Qhq_n,fc_int,catP,List.length_cons,List.length_nil,show A.length+(0+1)<1073741824 by omega]
   simp [sAbove]
  ·have t2:l.take (2*(j+1))=l.take (2*j)++[x]:=by
    rw [←t1,List.take_of_length_le (by omega),List.take_of_length_le (by omega)]
   rw [t2,sAbove_app j _ _ hll]
   generalize sAbove (l.take (2*j))=A at hA
   simp only [Qhr_r0,un,cur0,binP_lss,binP_add,lenP_eq,ints,List.length_map,iteP_eq,w1,w2,show decide (((2*j:Nat):Int)<(l.length:Int))=true by simp;omega,show decide (((2*j+1:Nat):Int)<(l.length:Int))=false by simp;omega,if_true,Bool.false_eq_true,if_false,elemP,Int.toNat_natCast,List.getElem?_map,hx,Option.map_some,show (0:Int)≤((2*j:Nat):Int) by omega,true_and,atP_zero,fc_int,catP,List.length_cons,List.length_nil,show A.length+(0+1)<1073741824 by omega]
   simp [sAbove]
 ·have:l.take (2*((l.length+1) / 2))=l:=List.take_of_length_le (by omega)
  rw [this]
  simp only [Qhr_r0,un,cur0,binP_lss,lenP_eq,ints,List.length_map,iteP_eq,show decide (((2*((l.length+1) / 2):Nat):Int)<(l.length:Int))=false by simp;omega]
  simp) k
theorem Qhs_lp (k:List PV→Prop):∀(n:Nat) (l:List Int),l.length<n→1≤l.length→l.length≤1048576→(lp (fun L w=>Qhs_r0 w L (fun q3 q4=>elemP 1 q3 (I 0) fun c5=>rt [.sc] [atP c5 0] k)) [ints l,I 0]↔k [I (sTopN n l)])
 | 0,l,h,_,_=>by omega
 | n+1,l,h,h1,h2=>by
  unfold sTopN
  by_cases hl:1<l.length
  ·have ha:=sAbove_len l
   have ih:=Qhs_lp k n (sAbove l) (by omega) (by omega) (by omega)
   rw [if_pos hl]
   refine (lp_step fun K=>?_).trans ih
   have e:=Qhr_n l h2
   simp [Qhs_r0,show (1:Int)<l.length by omega,e]
  ·rw [if_neg hl]
   refine itP_mono_end fun K=>?_
   match l,h1,hl with
   | [a],_,_=>simp [Qhs_r0,ints,elemP]
   | _::_::_,_,hl=>simp at hl
theorem Qhs_n (l:List Int) (h:l.length≤1048576) (k):call Qhs [.one (ints l)] k=k [I (sTop l)]:=call_of (fun k=>by
 have eh:∀(l:List Int),l.length<1000→∀k,call Qhp [.one (ints l)] k=k [I (sHash l)]:=fun l hl=>call_of (fun k=>by simp [Qhp,Qfx_n l (by omega)])
 unfold sTop
 by_cases h0:l.length=0
 ·have:l=[]:=List.eq_nil_of_length_eq_zero h0
  subst this
  have e:=eh [229] (by simp)
  rw [show ints [229]=PV.list 1 [[I 229]] from rfl] at e
  simp [Qhs,fc_int,e]
 ·rw [if_neg h0]
  have e:=Qhs_lp k (l.length+1) l (by omega) (by omega) h
  rw [←e]
  simp [Qhs,show ¬(l.length:Int)=0 by omega,show ¬l=[] by (rintro rfl;simp at h0)]) k
theorem Qht_n (a b:Int) (k):call Qht [.one (I a),.one (I b)] k=k [I (sHash [231,a,b])]:=call_of (fun k=>by
 have eh:∀(l:List Int),l.length<1000→∀k,call Qhp [.one (ints l)] k=k [I (sHash l)]:=fun l hl=>call_of (fun k=>by simp [Qhp,Qfx_n l (by omega)])
 have e:=eh [231,a,b] (by simp)
 rw [show ints [231,a,b]=PV.list 1 [[I 231],[I a],[I b]] from rfl] at e
 simp [Qht,fc_int,e]) k
theorem Qhu_n (l:List GEntry) (h:mEntryS l≤1048576) (k):call Qhu [.one (.list 4 (l.map eEntry))] k=k [I (sRoot l)]:=call_of (fun k=>by
 have hl:=(entries_le h).1
 have e1:=Qho_n l h
 have e2:=Qhs_n (l.map sLeaf) (by simpa using hl)
 simp [Qhu,e1,e2,Qht_n,sRoot]) k
theorem Qeh_n (a b:Int) (k):call Qeh [.one (I a),.one (I b)] k=k [I (sNode a b)]:=call_of (fun k=>by
 have eh:∀(l:List Int),l.length<1000→∀k,call Qdc [.one (ints l)] k=k [I (sHash l)]:=fun l hl=>Qdc_n l (by omega)
 have e:=eh [229,a,b] (by simp)
 rw [show ints [229,a,b]=PV.list 1 [[I 229],[I a],[I b]] from rfl] at e
 simp [Qeh,fc_int,e,sNode]) k
theorem Qei_n (l:List Int) (h:l.length≤1048576) (k):call Qei [.one (ints l)] k=k [ints (sAbove l)]:=call_of (fun k=>by
 simp only [Qei,rt_eq,scs_own,scs_nil,true_and,show (0:Nat)≤16777216 by omega]
 refine lp_nat ((l.length+1) / 2) (fun j=>[ints l,I ((2*j:Nat):Int),.list 1 [],ints (sAbove (l.take (2*j)))]) (by simp [ints,sAbove]) (fun j hj K=>?_) fun K=>?_
 ·have hlt:2*j<l.length:=by omega
  obtain ⟨x,hx⟩:∃x,l[2*j]? = some x:=⟨l[2*j],List.getElem?_eq_getElem hlt⟩
  have t1:l.take (2*j+1)=l.take (2*j)++[x]:=take_snoc hx
  have hll:(l.take (2*j)).length=2*j:=by simp;omega
  have hA:(sAbove (l.take (2*j))).length≤1048576:=by have:=(sAbove_len (l.take (2*j))).1;omega
  have w1:IntKind.i64.wrap (((2*j:Nat):Int)+1)=((2*j+1:Nat):Int):=by rw [wr_eq (by omega) (by omega)];omega
  have w2:IntKind.i64.wrap (((2*j:Nat):Int)+2)=((2*(j+1):Nat):Int):=by rw [wr_eq (by omega) (by omega)];omega
  by_cases h2:2*j+1<l.length
  ·obtain ⟨y,hy⟩:∃y,l[2*j+1]? = some y:=⟨l[2*j+1],List.getElem?_eq_getElem h2⟩
   have t2:l.take (2*(j+1))=l.take (2*j)++[x,y]:=by
    rw [show 2*(j+1)=2*j+1+1 by omega,take_snoc hy,t1];simp
   rw [t2,sAbove_app j _ _ hll]
   generalize sAbove (l.take (2*j))=A at hA
   simp only [Qei_r0,un,cur0,binP_lss,binP_add,lenP_eq,ints,List.length_map,iteP_eq,w1,w2,show decide (((2*j:Nat):Int)<(l.length:Int))=true by simp;omega,show decide (((2*j+1:Nat):Int)<(l.length:Int))=true by simp;omega,if_true,elemP,Int.toNat_natCast,List.getElem?_map,hx,hy,Option.map_some,show (0:Int)≤((2*j:Nat):Int) by omega,show (0:Int)≤((2*j+1:Nat):Int) by omega,true_and,atP_zero,Qeh_n,fc_int,catP,List.length_cons,List.length_nil,show A.length+(0+1)<1073741824 by omega]
   simp [sAbove]
  ·have t2:l.take (2*(j+1))=l.take (2*j)++[x]:=by
    rw [←t1,List.take_of_length_le (by omega),List.take_of_length_le (by omega)]
   rw [t2,sAbove_app j _ _ hll]
   generalize sAbove (l.take (2*j))=A at hA
   simp only [Qei_r0,un,cur0,binP_lss,binP_add,lenP_eq,ints,List.length_map,iteP_eq,w1,w2,show decide (((2*j:Nat):Int)<(l.length:Int))=true by simp;omega,show decide (((2*j+1:Nat):Int)<(l.length:Int))=false by simp;omega,if_true,Bool.false_eq_true,if_false,elemP,Int.toNat_natCast,List.getElem?_map,hx,Option.map_some,show (0:Int)≤((2*j:Nat):Int) by omega,true_and,atP_zero,fc_int,catP,List.length_cons,List.length_nil,show A.length+(0+1)<1073741824 by omega]
   simp [sAbove]
 ·have:l.take (2*((l.length+1) / 2))=l:=List.take_of_length_le (by omega)
  rw [this]
  simp only [Qei_r0,un,cur0,binP_lss,lenP_eq,ints,List.length_map,iteP_eq,show decide (((2*((l.length+1) / 2):Nat):Int)<(l.length:Int))=false by simp;omega]
  simp) k
theorem Qej_lp (k:List PV→Prop):∀(n:Nat) (l:List Int),l.length<n→1≤l.length→l.length≤1048576→(lp (fun L w=>Qej_r0 w L (fun q3 q4=>elemP 1 q4 (I 0) fun c5=>rt [.sc] [atP c5 0] k)) [I 0,ints l]↔k [I (sTopN n l)])
 | 0,l,h,_,_=>by omega
 | n+1,l,h,h1,h2=>by
  unfold sTopN
  by_cases hl:1<l.length
  ·have ha:=sAbove_len l
   have ih:=Qej_lp k n (sAbove l) (by omega) (by omega) (by omega)
   rw [if_pos hl]
   refine (lp_step fun K=>?_).trans ih
   have e:=Qei_n l h2
   simp [Qej_r0,show (1:Int)<l.length by omega,e]
  ·rw [if_neg hl]
   refine itP_mono_end fun K=>?_
   match l,h1,hl with
   | [a],_,_=>simp [Qej_r0,ints,elemP]
   | _::_::_,_,hl=>simp at hl
theorem Qej_n (l:List Int) (h:l.length≤1048576) (k):call Qej [.one (ints l)] k=k [I (sTop l)]:=call_of (fun k=>by
 have eh:∀(l:List Int),l.length<1000→∀k,call Qdc [.one (ints l)] k=k [I (sHash l)]:=fun l hl=>Qdc_n l (by omega)
 unfold sTop
 by_cases h0:l.length=0
 ·have:l=[]:=List.eq_nil_of_length_eq_zero h0
  subst this
  have e:=eh [229] (by simp)
  rw [show ints [229]=PV.list 1 [[I 229]] from rfl] at e
  simp [Qej,fc_int,e]
 ·rw [if_neg h0]
  have e:=Qej_lp k (l.length+1) l (by omega) (by omega) h
  rw [←e]
  simp [Qej,show ¬(l.length:Int)=0 by omega,show ¬l=[] by (rintro rfl;simp at h0)]) k
theorem Qek_n (a b:Int) (k):call Qek [.one (I a),.one (I b)] k=k [I (sHash [231,a,b])]:=call_of (fun k=>by
 have eh:∀(l:List Int),l.length<1000→∀k,call Qdc [.one (ints l)] k=k [I (sHash l)]:=fun l hl=>Qdc_n l (by omega)
 have e:=eh [231,a,b] (by simp)
 rw [show ints [231,a,b]=PV.list 1 [[I 231],[I a],[I b]] from rfl] at e
 simp [Qek,fc_int,e]) k
theorem Qel_n (l:List GEntry) (h:mEntryS l≤1048576) (k):call Qel [.one (.list 4 (l.map eEntry))] k=k [I (sRoot l)]:=call_of (fun k=>by
 have hl:=(entries_le h).1
 have e1:=Qeg_n l h
 have e2:=Qej_n (l.map sLeaf) (by simpa using hl)
 simp [Qel,e1,e2,Qek_n,sRoot]) k
def sCheckAll (root:Int) (l:List GEntry):Bool:=sAreEntries l&&decide (sRoot l=root)
theorem Qhv_n (root:Int) (l:List GEntry) (h:mEntryS l≤1048576) (k):call Qhv [.one (I root),.one (.list 4 (l.map eEntry))] k=k [.bool (sCheckAll root l)]:=call_of (fun k=>by
 have e1:=Qhj_n l h
 have e2:=Qhu_n l h
 simp only [Qhv,e1,e2,binP_eql,beqI,atP_zero,iteP_eq,rt_eq,scs_sc,scs_nil,flat_bool,true_and]
 exact stepB fun _=>Iff.rfl) k
theorem Qem_n (root:Int) (l:List GEntry) (h:mEntryS l≤1048576) (k):call Qem [.one (I root),.one (.list 4 (l.map eEntry))] k=k [.bool (sCheckAll root l)]:=call_of (fun k=>by
 have e1:=Qeb_n l h
 have e2:=Qel_n l h
 simp only [Qem,e1,e2,binP_eql,beqI,atP_zero,iteP_eq,rt_eq,scs_sc,scs_nil,flat_bool,true_and]
 exact stepB fun _=>Iff.rfl) k
def sIsZone (z:GZone):Bool:=match sLast z.Chain with | some p=>decide (p.Count=(z.Entries.length:Int))&&sCheckAll p.Root z.Entries | none=>false
theorem last_some {l:List GSigned} {p:GHead} (h:sLast l=some p):sIsChain l=true∧∃s,l[l.length-1]? = some s∧s.Head=p:=by
 unfold sLast at h
 split at h
 ·rename_i hc
  obtain ⟨s,hs,hp⟩:=Option.map_eq_some_iff.1 h
  exact ⟨hc,s,hs,hp⟩
 ·cases h
theorem last_none' {l:List GSigned} (h:sLast l=none):sIsChain l=false:=by
 unfold sLast at h
 cases hc:sIsChain l with
 | false=>rfl
 | true =>
  obtain ⟨p,hp,_⟩:=chain_has hc
  rw [hc,if_pos rfl,hp] at h;cases h
theorem zone_le' {z:GZone} (h:mZone z≤1048576):mSignedS z.Chain≤1048576∧mEntryS z.Entries≤1048576:=by unfold mZone at h;omega
theorem Qen_n (z:GZone) (h:mZone z≤1048576) (k):call Qen [.agg (eZone z)] k=k [.bool (sIsZone z)]:=call_of (fun k=>by
 obtain ⟨h1,h2⟩:=zone_le' h
 have e:=Qdw_n z.Chain h1
 unfold sIsZone
 cases hs:sLast z.Chain with
 | none=>simp [Qen,e,hs,oHead,zHead]
 | some p =>
  have e2:=Qem_n p.Root z.Entries h2
  simp [Qen,e,hs,oHead,e2]
  by_cases hc:p.Count=(z.Entries.length:Int)<;>simp [hc]) k
theorem Qhw_n (z:GZone) (h:mZone z≤1048576) (k):call Qhw [.agg (eZone z)] k=k [.bool (sIsZone z)]:=call_of (fun k=>by
 obtain ⟨h1,h2⟩:=zone_le' h
 have e:=Qgy_n z.Chain h1
 unfold sIsZone
 cases hs:sLast z.Chain with
 | none=>simp [Qhw,e,last_none' hs]
 | some p =>
  obtain ⟨hc,s,hp,rfl⟩:=last_some hs
  have e1:=Qgz_n z.Chain s (chain_le h1).1 hp
  have e2:=Qhv_n s.Head.Root z.Entries h2
  simp [Qhw,e,hc,e1,e2]
  by_cases hc:s.Head.Count=(z.Entries.length:Int)<;>simp [hc]) k
def sZoneId (z:GZone):Int:=if sIsZone z=true then (match sLast z.Chain with | some p=>p.Zone | none=>-1) else -1
theorem zone_last {z:GZone} (h:sIsZone z=true):∃p,sLast z.Chain=some p:=by
 unfold sIsZone at h
 cases hs:sLast z.Chain with
 | none=>rw [hs] at h;cases h
 | some p=>exact ⟨p,rfl⟩
theorem Qeo_n (z:GZone) (h:mZone z≤1048576) (k):call Qeo [.agg (eZone z)] k=k [I (sZoneId z)]:=call_of (fun k=>by
 obtain ⟨h1,h2⟩:=zone_le' h
 have e1:=Qdw_n z.Chain h1
 have e2:=Qen_n z h
 unfold sZoneId
 cases hz:sIsZone z with
 | false=>cases hs:sLast z.Chain<;>simp [Qeo,e1,e2,hz,hs,oHead,zHead]
 | true =>
  obtain ⟨p,hp⟩:=zone_last hz
  simp [Qeo,e1,e2,hz,hp,oHead]) k
theorem Qhx_n (z:GZone) (h:mZone z≤1048576) (k):call Qhx [.agg (eZone z)] k=k [I (sZoneId z)]:=call_of (fun k=>by
 obtain ⟨h1,h2⟩:=zone_le' h
 have e2:=Qhw_n z h
 unfold sZoneId
 cases hz:sIsZone z with
 | false=>simp [Qhx,e2,hz]
 | true =>
  obtain ⟨p,hp⟩:=zone_last hz
  obtain ⟨hc,s,hs,rfl⟩:=last_some hp
  have e1:=Qgz_n z.Chain s (chain_le h1).1 hs
  simp [Qhx,e1,e2,hz,hp]) k
theorem zoneS_le {l:List GZone} (h:mZoneS l≤1048576):l.length≤1048576∧∀z∈l,mZone z≤1048576:=by
 unfold mZoneS at h
 refine ⟨by omega,fun z hz=>?_⟩
 have:=sumN_mem (s:=mZone) hz
 omega
theorem findI_bd {α:Type} (p:α→Bool):∀(l:List α) (i:Nat),findI p i l=-1∨((i:Int)≤findI p i l∧findI p i l<(i:Int)+l.length)
 | [],i=>.inl rfl
 | x::l,i=>by
  unfold findI
  split
  ·right;simp;omega
  ·rcases findI_bd p l (i+1) with h | ⟨h1,h2⟩
   ·exact .inl h
   ·right;rw [List.length_cons];omega
theorem findX_neg {α:Type} (p:Nat→α→Bool):∀(i:Nat) (l:List α),findX p i l<0→∀j x,l[j]? = some x→p (i+j) x=false
 | i,[],_,j,x,hx=>by simp at hx
 | i,y::l,h,j,x,hx=>by
  rw [findX] at h
  split at h
  ·omega
  ·rename_i hp
   cases j with
   | zero=>simp at hx;subst hx;simpa using hp
   | succ j =>
    have:=findX_neg p (i+1) l h j x (by simpa using hx)
    rwa [show i+(j+1)=i+1+j by omega]
theorem may_head {p:GHead} {s:GSigned} (h:sMay p s=true):sIsHead s.Head=true:=by
 unfold sMay sCode at h
 cases h1:sIsHead s.Head with
 | true=>rfl
 | false=>rw [h1] at h;cases h2:sIsHead p<;>simp [h2] at h
theorem last_head {l:List GSigned} {p:GHead} (h:sLast l=some p):sIsHead p=true:=by
 obtain ⟨hc,s,hs,rfl⟩:=last_some h
 unfold sIsChain at hc
 simp only [Bool.and_eq_true,decide_eq_true_eq] at hc
 have:=findX_neg (wrongP l) 0 l hc.2 (l.length-1) s hs
 unfold wrongP at this
 split at this
 ·have h2:sIsFirst s=true:=by simpa using this
  unfold sIsFirst at h2
  simp only [Bool.and_eq_true] at h2
  exact h2.1
 ·split at this
  ·exact may_head (by simpa using this)
  ·cases this
theorem last_bounds {l:List GSigned} {p:GHead} (h:sLast l=some p):(0≤p.Count∧p.Count≤12)∧0≤p.Zone:=by
 have:=last_head h
 unfold sIsHead inR at this
 simp only [Bool.and_eq_true,decide_eq_true_eq] at this
 omega
theorem zoneId_neg (z:GZone):decide (sZoneId z<0)=!sIsZone z:=by
 unfold sZoneId
 cases h:sIsZone z with
 | false=>simp
 | true =>
  obtain ⟨p,hp⟩:=zone_last h
  have:=last_bounds hp
  simp only [if_true,hp,Bool.not_true,decide_eq_false_iff_not]
  omega
theorem impl_zoneAt_1_n (z:GZone) (id:Int) (h:mZone z≤1048576) (k):call Qhy [.agg (eZone z),.ro (.cells [I id])] k=k [.bool (decide (sZoneId z=id))]:=call_of (fun k=>by
 simp [Qhy,Qhx_n z h,beqI]) k
theorem impl_zoneAt_n (w:GWorld) (id:Int) (h:mZoneS w.Zones≤1048576) (k):call Qia [.agg (eWorld w),.one (I id)] k=k [I (idx (fun y=>decide (sZoneId y=id)) w.Zones)]:=call_of (fun k=>by
 obtain ⟨hl,hz⟩:=zoneS_le h
 have e:∀k,call Qhz [.one (.list 2 (w.Zones.map eZone)),.fn 262 [.cells [I id]]] k=k [I (idx (fun y=>decide (sZoneId y=id)) w.Zones)]:=call_of (fun k=>by
  simp [Qhz]
  refine lp_find (Q:=fun i=>k [I i]) w.Zones (fun i=>[.list 2 (w.Zones.map eZone),I id,I 0,I w.Zones.length,I i]) (fun y=>decide (sZoneId y=id)) rfl (fun i x hx hi K=>?_) fun K=>?_
  ·simp [-getElem?_pos,Qhz_r0,hx,hi,impl_zoneAt_1_n x id (hz x (mem_get hx)),wr_succ (show i<1000000000000000000 by omega)]
  ·simp [Qhz_r0])
 simp only [Qia,un,cur0,e,atP_zero,rt_eq,scs_sc,scs_nil,flat_int,true_and]) k
theorem sumB {α:Type} {f:α→Nat} {l:List α} (h:l.length+sumN f l≤1048576):l.length≤1048576∧∀x∈l,f x≤1048576:=by
 refine ⟨by omega,fun x hx=>?_⟩
 have:f x≤sumN f l:=sumN_mem (s:=f) hx
 omega
abbrev eChainR (l:List GSigned):List PV:=[.list 17 (l.map eSigned)]
theorem Qer_n (l:List GActor) (h:mActorS l≤1048576) (k):call Qer [.one (.list 1 (l.map eActor))] k=k [.list 1 (l.map eActor)]:=call_of (fun k=>by
 obtain ⟨hl,hx0⟩:=sumB (f:=mActor) h
 simp only [Qer,lenP_eq,List.length_map,true_and,show (0:Nat)≤16777216 by omega]
 refine lp_list l (fun i=>[.list 1 (l.map eActor),I l.length,I i,.list 1 [],.list 1 ((l.take i).map eActor)]) (by simp) (fun i x hx hi K=>?_) fun K=>?_
 ·have e:=Clone_int_n x.Held (hx0 x (List.mem_of_getElem? hx))
  rw [take_snoc hx,List.map_append]
  simp [-getElem?_pos,Qer_r0,hx,hi,e,wr_succ (show i<1000000000000000000 by omega)]
  try omega
 ·simp [Qer_r0]) k
theorem Qcf_n (l:List GActor) (h:mActorS l≤1048576) (k):call Qcf [.one (.list 1 (l.map eActor))] k=k [.list 1 (l.map eActor)]:=call_of (fun k=>by
 obtain ⟨hl,hx0⟩:=sumB (f:=mActor) h
 simp only [Qcf,true_and,show (0:Nat)≤16777216 by omega]
 refine lp_list l (fun i=>[.list 1 (l.map eActor),I i,.list 1 [],.list 1 ((l.take i).map eActor)]) (by simp) (fun i x hx hi K=>?_) fun K=>?_
 ·have e:x.Held.length≤1048576:=hx0 x (List.mem_of_getElem? hx)
  have hf:flatRows (ints x.Held):=flatRows_map fun x _ p hp=>by simp [rI] at hp;subst hp;rfl
  rw [take_snoc hx,List.map_append]
  simp [-getElem?_pos,Qcf_r0,hx,hi,hf,wr_succ (show i<1000000000000000000 by omega)]
  exact ⟨fun q=>q.2.2,fun q=>⟨by omega,by omega,q⟩⟩
 ·simp [Qcf_r0]) k
theorem Qfb_n (s:GServer) (h:mServer s≤1048576) (k):call Qfb [.agg (eServer s)] k=k (eServer s):=call_of (fun k=>by
 obtain ⟨hl,hz⟩:=zoneS_le (show mZoneS s.Zones≤1048576 from h)
 simp [Qfb]
 refine lp_list s.Zones (fun i=>[.list 2 (s.Zones.map eZone),I s.Zones.length,I i,I s.Lie,I 0,.list 2 [],.list 2 ((s.Zones.take i).map eZone)]) (by simp) (fun i x hx hi K=>?_) fun K=>?_
 ·have e:=Qfa_n x (hz x (List.mem_of_getElem? hx))
  rw [take_snoc hx,List.map_append]
  simp [-getElem?_pos,Qfb_r0,hx,hi,e,wr_succ (show i<1000000000000000000 by omega)]
  try omega
 ·simp [Qfb_r0]) k
theorem Qcu_n (s:GServer) (h:mServer s≤1048576) (k):call Qcu [.agg (eServer s)] k=k (eServer s):=call_of (fun k=>by
 obtain ⟨hl,hz⟩:=zoneS_le (show mZoneS s.Zones≤1048576 from h)
 simp [Qcu]
 refine lp_list s.Zones (fun i=>[I i,I s.Lie,I 0,.list 2 (s.Zones.map eZone),I s.Lie,.list 2 [],.list 2 ((s.Zones.take i).map eZone)]) (by simp) (fun i x hx hi K=>?_) fun K=>?_
 ·have e:=Qct_n x (hz x (List.mem_of_getElem? hx))
  rw [take_snoc hx,List.map_append]
  simp [-getElem?_pos,Qcu_r0,hx,hi,e,wr_succ (show i<1000000000000000000 by omega)]
  try omega
 ·simp [Qcu_r0]) k
theorem Qfc_n (l:List GServer) (h:mServerS l≤1048576) (k):call Qfc [.one (.list 2 (l.map eServer))] k=k [.list 2 (l.map eServer)]:=call_of (fun k=>by
 obtain ⟨hl,hx0⟩:=sumB (f:=mServer) h
 simp only [Qfc,lenP_eq,List.length_map,true_and,show (0:Nat)≤16777216 by omega]
 refine lp_list l (fun i=>[.list 2 (l.map eServer),I l.length,I i,.list 2 [],.list 2 ((l.take i).map eServer)]) (by simp) (fun i x hx hi K=>?_) fun K=>?_
 ·have e:=Qfb_n x (hx0 x (List.mem_of_getElem? hx))
  rw [take_snoc hx,List.map_append]
  simp [-getElem?_pos,Qfc_r0,hx,hi,e,wr_succ (show i<1000000000000000000 by omega)]
  try omega
 ·simp [Qfc_r0]) k
theorem Qfd_n (f:GFork) (h:mFork f≤1048576) (k):call Qfd [.agg (eFork f)] k=k (eFork f):=call_of (fun k=>by
 unfold mFork at h
 simp [Qfd,Qev_n f.Before (by omega),Qev_n f.A (by omega),Qev_n f.B (by omega)]) k
theorem Qck_n (f:GFork) (h:mFork f≤1048576) (k):call Qck [.agg (eFork f)] k=k (eFork f):=call_of (fun k=>by
 unfold mFork at h
 simp [Qck,Qci_n f.Before (by omega),Qci_n f.A (by omega),Qci_n f.B (by omega)]) k
theorem Qfi_n (s:GStored) (h:mStored s≤1048576) (k):call Qfi [.agg (eStored s)] k=k (eStored s):=call_of (fun k=>by
 unfold mStored at h
 simp [Qfi,Qfh_n s.Answer (by omega)]) k
theorem knownB {a:GKnown} (h:mKnown a≤1048576):(a.Chains.length≤1048576∧∀l∈a.Chains,mSignedS l≤1048576)∧a.Forks.length≤1048576∧∀f∈a.Forks,mFork f≤1048576:=by
 unfold mKnown at h
 exact ⟨sumB (f:=mSignedS) (show _≤_ by unfold mSignedSS at h;omega),sumB (f:=mFork) (show _≤_ by unfold mForkS at h;omega)⟩
theorem Qfe_n (a:GKnown) (h:mKnown a≤1048576) (k):call Qfe [.agg (eKnown a)] k=k (eKnown a):=call_of (fun k=>by
 obtain ⟨⟨hc,hc0⟩,hf,hf0⟩:=knownB h
 simp [Qfe]
 refine lp_list a.Chains (fun i=>[(.list 1 (a.Chains.map eChainR)),I a.Chains.length,I i,(.list 1 (a.Chains.map eChainR)),(.list 51 (a.Forks.map eFork)),.list 51 [],.list 1 [],.list 51 [],.list 1 ((a.Chains.take i).map eChainR)]) (by simp) (fun i x hx hi K=>?_) fun K=>?_
 ·have e:=Qew_n x (hc0 x (List.mem_of_getElem? hx))
  rw [take_snoc hx,List.map_append]
  simp [-getElem?_pos,Qfe_r0,hx,hi,e,wr_succ (show i<1000000000000000000 by omega)]
  try omega
 ·simp [Qfe_r0]
  refine lp_list a.Forks (fun i=>[(.list 1 (a.Chains.map eChainR)),I a.Chains.length,I a.Chains.length,(.list 51 (a.Forks.map eFork)),I a.Forks.length,I i,(.list 1 (a.Chains.map eChainR)),(.list 51 (a.Forks.map eFork)),.list 51 [],.list 1 [],.list 51 ((a.Forks.take i).map eFork),(.list 1 (a.Chains.map eChainR))]) (by simp) (fun i x hx hi K=>?_) fun K=>?_
  ·have e:=Qfd_n x (hf0 x (List.mem_of_getElem? hx))
   rw [take_snoc hx,List.map_append]
   simp [-getElem?_pos,Qfe_r1,hx,hi,e,wr_succ (show i<1000000000000000000 by omega)]
   try omega
  ·simp [Qfe_r1]) k
theorem Qcl_n (a:GKnown) (h:mKnown a≤1048576) (k):call Qcl [.agg (eKnown a)] k=k (eKnown a):=call_of (fun k=>by
 obtain ⟨⟨hc,hc0⟩,hf,hf0⟩:=knownB h
 simp [Qcl]
 refine lp_list a.Chains (fun i=>[I i,(.list 1 (a.Chains.map eChainR)),(.list 51 (a.Forks.map eFork)),.list 51 [],.list 1 [],.list 51 [],.list 1 ((a.Chains.take i).map eChainR)]) (by simp) (fun i x hx hi K=>?_) fun K=>?_
 ·have e:=Qcj_n x (hc0 x (List.mem_of_getElem? hx))
  rw [take_snoc hx,List.map_append]
  simp [-getElem?_pos,Qcl_r0,hx,hi,e,wr_succ (show i<1000000000000000000 by omega)]
  try omega
 ·simp [Qcl_r0]
  refine lp_list a.Forks (fun i=>[I a.Chains.length,I i,(.list 1 (a.Chains.map eChainR)),(.list 51 (a.Forks.map eFork)),.list 51 [],.list 1 [],.list 51 ((a.Forks.take i).map eFork),(.list 1 (a.Chains.map eChainR))]) (by simp) (fun i x hx hi K=>?_) fun K=>?_
  ·have e:=Qck_n x (hf0 x (List.mem_of_getElem? hx))
   rw [take_snoc hx,List.map_append]
   simp [-getElem?_pos,Qcl_r1,hx,hi,e,wr_succ (show i<1000000000000000000 by omega)]
   try omega
  ·simp [Qcl_r1]) k
theorem cacheB {a:GCache} (h:mCache a≤1048576):a.Lst.length≤1048576∧∀s∈a.Lst,mStored s≤1048576:=sumB (f:=mStored) h
theorem Qfj_n (a:GCache) (h:mCache a≤1048576) (k):call Qfj [.agg (eCache a)] k=k (eCache a):=call_of (fun k=>by
 obtain ⟨hl,hx0⟩:=cacheB h
 simp [Qfj]
 refine lp_list a.Lst (fun i=>[.list 23 (a.Lst.map eStored),I a.Lst.length,I i,.list 23 [],.list 23 ((a.Lst.take i).map eStored)]) (by simp) (fun i x hx hi K=>?_) fun K=>?_
 ·have e:=Qfi_n x (hx0 x (List.mem_of_getElem? hx))
  rw [take_snoc hx,List.map_append]
  simp [-getElem?_pos,Qfj_r0,hx,hi,e,wr_succ (show i<1000000000000000000 by omega)]
  try omega
 ·simp [Qfj_r0]) k
theorem Qcr_n (a:GCache) (h:mCache a≤1048576) (k):call Qcr [.agg (eCache a)] k=k (eCache a):=call_of (fun k=>by
 obtain ⟨hl,hx0⟩:=cacheB h
 simp [Qcr]
 refine lp_list a.Lst (fun i=>[I i,.list 23 (a.Lst.map eStored),.list 23 [],.list 23 ((a.Lst.take i).map eStored)]) (by simp) (fun i x hx hi K=>?_) fun K=>?_
 ·have hm:mStored x≤1048576:=hx0 x (List.mem_of_getElem? hx)
  have e:=Qcq_n x.Answer (by unfold mStored at hm;omega)
  rw [take_snoc hx,List.map_append]
  simp [-getElem?_pos,Qcr_r0,hx,hi,e,wr_succ (show i<1000000000000000000 by omega)]
  try omega
 ·simp [Qcr_r0]) k
theorem worldB {w:GWorld} (h:mWorld w≤1048576):(mActorS w.Actors≤1048576∧mServerS w.Servers≤1048576∧mKnown w.Known≤1048576∧mCache w.Cache≤1048576)∧(mZoneS w.Zones≤1048576∧w.Zones.length≤1048576∧∀z∈w.Zones,mZone z≤1048576)∧w.Said.length≤1048576∧∀s∈w.Said,mSaid s≤1048576:=by
 unfold mWorld at h
 refine ⟨⟨by omega,by omega,by omega,by omega⟩,⟨by omega,zoneS_le (by omega)⟩,sumB (f:=mSaid) (show _≤_ by unfold mSaidS at h;omega)⟩
theorem Qfk_n (w:GWorld) (h:mWorld w≤1048576) (k):call Qfk [.agg (eWorld w)] k=k (eWorld w):=call_of (fun k=>by
 obtain ⟨⟨h1,h2,h3,h4⟩,⟨h5,hl,hz⟩,hs,hs0⟩:=worldB h
 have e1:=Qer_n w.Actors h1
 have e2:=Qfc_n w.Servers h2
 have e3:∀k,call Qfe [.agg [(.list 1 (w.Known.Chains.map eChainR)),(.list 51 (w.Known.Forks.map eFork))]] k=k [(.list 1 (w.Known.Chains.map eChainR)),(.list 51 (w.Known.Forks.map eFork))]:=Qfe_n w.Known h3
 have e4:∀k,call Qfj [.agg [(.list 23 (w.Cache.Lst.map eStored))]] k=k [(.list 23 (w.Cache.Lst.map eStored))]:=Qfj_n w.Cache h4
 simp [Qfk,e1,e2,e3,e4]
 refine lp_list w.Zones (fun i=>[(.list 2 (w.Zones.map eZone)),I w.Zones.length,I i,I w.Now,I 0,I w.Now,(.list 1 (w.Actors.map eActor)),(.list 2 (w.Zones.map eZone)),(.list 3 (w.Said.map eSaid)),(.list 2 (w.Servers.map eServer)),(.list 1 (w.Known.Chains.map eChainR)),(.list 51 (w.Known.Forks.map eFork)),(.list 23 (w.Cache.Lst.map eStored)),.list 23 [],.list 51 [],.list 1 [],.list 2 [],.list 3 [],.list 2 [],.list 1 [],.list 3 [],.list 2 ((w.Zones.take i).map eZone),(.list 23 (w.Cache.Lst.map eStored)),(.list 1 (w.Known.Chains.map eChainR)),(.list 51 (w.Known.Forks.map eFork)),(.list 2 (w.Servers.map eServer)),(.list 1 (w.Actors.map eActor))]) (by simp) (fun i x hx hi K=>?_) fun K=>?_
 ·have e:=Qfa_n x (hz x (List.mem_of_getElem? hx))
  rw [take_snoc hx,List.map_append]
  simp [-getElem?_pos,Qfk_r0,hx,hi,e,wr_succ (show i<1000000000000000000 by omega)]
  try omega
 ·simp [Qfk_r0]
  refine lp_list w.Said (fun i=>[(.list 2 (w.Zones.map eZone)),I w.Zones.length,I w.Zones.length,(.list 3 (w.Said.map eSaid)),I w.Said.length,I i,I w.Now,I 0,I w.Now,(.list 1 (w.Actors.map eActor)),(.list 2 (w.Zones.map eZone)),(.list 3 (w.Said.map eSaid)),(.list 2 (w.Servers.map eServer)),(.list 1 (w.Known.Chains.map eChainR)),(.list 51 (w.Known.Forks.map eFork)),(.list 23 (w.Cache.Lst.map eStored)),.list 23 [],.list 51 [],.list 1 [],.list 2 [],.list 3 [],.list 2 [],.list 1 [],.list 3 ((w.Said.take i).map eSaid),(.list 2 (w.Zones.map eZone)),(.list 23 (w.Cache.Lst.map eStored)),(.list 1 (w.Known.Chains.map eChainR)),(.list 51 (w.Known.Forks.map eFork)),(.list 2 (w.Servers.map eServer)),(.list 1 (w.Actors.map eActor))]) (by simp) (fun i x hx hi K=>?_) fun K=>?_
  ·have hm:mSaid x≤1048576:=hs0 x (List.mem_of_getElem? hx)
   have e:=Qfa_n x.Zone (by unfold mSaid at hm;omega)
   have e':=Clone_int_n x.Held (by unfold mSaid at hm;omega)
   rw [take_snoc hx,List.map_append]
   simp [-getElem?_pos,Qfk_r1,hx,hi,e,e',wr_succ (show i<1000000000000000000 by omega)]
   try omega
  ·simp [Qfk_r1]) k
theorem Qcv_n (w:GWorld) (h:mWorld w≤1048576) (k):call Qcv [.agg (eWorld w)] k=k (eWorld w):=call_of (fun k=>by
 obtain ⟨⟨h1,h2,h3,h4⟩,⟨h5,hl,hz⟩,hs,hs0⟩:=worldB h
 obtain ⟨hv,hv0⟩:=sumB (f:=mServer) h2
 have e1:=Qcf_n w.Actors h1
 have e3:∀k,call Qcl [.agg [(.list 1 (w.Known.Chains.map eChainR)),(.list 51 (w.Known.Forks.map eFork))]] k=k [(.list 1 (w.Known.Chains.map eChainR)),(.list 51 (w.Known.Forks.map eFork))]:=Qcl_n w.Known h3
 have e4:∀k,call Qcr [.agg [(.list 23 (w.Cache.Lst.map eStored))]] k=k [(.list 23 (w.Cache.Lst.map eStored))]:=Qcr_n w.Cache h4
 simp [Qcv,e1,e3,e4]
 refine lp_list w.Zones (fun i=>[I i,I w.Now,(.list 1 (w.Actors.map eActor)),I 0,I w.Now,(.list 1 (w.Actors.map eActor)),(.list 2 (w.Zones.map eZone)),(.list 3 (w.Said.map eSaid)),(.list 2 (w.Servers.map eServer)),(.list 1 (w.Known.Chains.map eChainR)),(.list 51 (w.Known.Forks.map eFork)),(.list 23 (w.Cache.Lst.map eStored)),.list 23 [],.list 51 [],.list 1 [],.list 2 [],.list 3 [],.list 2 [],.list 1 [],.list 2 [],.list 3 [],.list 2 ((w.Zones.take i).map eZone),(.list 23 (w.Cache.Lst.map eStored)),(.list 1 (w.Known.Chains.map eChainR)),(.list 51 (w.Known.Forks.map eFork))]) (by simp) (fun i x hx hi K=>?_) fun K=>?_
 ·have e:=Qct_n x (hz x (List.mem_of_getElem? hx))
  rw [take_snoc hx,List.map_append]
  simp [-getElem?_pos,Qcv_r0,hx,hi,e,wr_succ (show i<1000000000000000000 by omega)]
  try omega
 ·simp [Qcv_r0]
  refine lp_list w.Said (fun i=>[I w.Zones.length,I i,I w.Now,(.list 1 (w.Actors.map eActor)),I 0,I w.Now,(.list 1 (w.Actors.map eActor)),(.list 2 (w.Zones.map eZone)),(.list 3 (w.Said.map eSaid)),(.list 2 (w.Servers.map eServer)),(.list 1 (w.Known.Chains.map eChainR)),(.list 51 (w.Known.Forks.map eFork)),(.list 23 (w.Cache.Lst.map eStored)),.list 23 [],.list 51 [],.list 1 [],.list 2 [],.list 3 [],.list 2 [],.list 1 [],.list 2 [],.list 3 ((w.Said.take i).map eSaid),(.list 2 (w.Zones.map eZone)),(.list 23 (w.Cache.Lst.map eStored)),(.list 1 (w.Known.Chains.map eChainR)),(.list 51 (w.Known.Forks.map eFork))]) (by simp) (fun i x hx hi K=>?_) fun K=>?_
  ·have hm:mSaid x≤1048576:=hs0 x (List.mem_of_getElem? hx)
   have e:=Qct_n x.Zone (by unfold mSaid at hm;omega)
   have hh:x.Held.length≤1048576:=by unfold mSaid at hm;omega
   rw [take_snoc hx,List.map_append]
   simp [-getElem?_pos,Qcv_r1,hx,hi,e,catP_nil (sz:=1) (rows:=x.Held.map rI) (by simpa using hh),wr_succ (show i<1000000000000000000 by omega)]
   exact ⟨fun q=>q.2.2,fun q=>⟨by omega,by omega,q⟩⟩
  ·simp [Qcv_r1]
   refine lp_list w.Servers (fun i=>[I w.Zones.length,I w.Said.length,I i,I w.Now,(.list 1 (w.Actors.map eActor)),I 0,I w.Now,(.list 1 (w.Actors.map eActor)),(.list 2 (w.Zones.map eZone)),(.list 3 (w.Said.map eSaid)),(.list 2 (w.Servers.map eServer)),(.list 1 (w.Known.Chains.map eChainR)),(.list 51 (w.Known.Forks.map eFork)),(.list 23 (w.Cache.Lst.map eStored)),.list 23 [],.list 51 [],.list 1 [],.list 2 [],.list 3 [],.list 2 [],.list 1 [],.list 2 ((w.Servers.take i).map eServer),(.list 3 (w.Said.map eSaid)),(.list 2 (w.Zones.map eZone)),(.list 23 (w.Cache.Lst.map eStored)),(.list 1 (w.Known.Chains.map eChainR)),(.list 51 (w.Known.Forks.map eFork))]) (by simp) (fun i x hx hi K=>?_) fun K=>?_
   ·have e:=Qcu_n x (hv0 x (List.mem_of_getElem? hx))
    rw [take_snoc hx,List.map_append]
    simp [-getElem?_pos,Qcv_r2,hx,hi,e,wr_succ (show i<1000000000000000000 by omega)]
    try omega
   ·simp [Qcv_r2]) k
def sPutAt (w:GWorld) (z:GZone) (i:Int):GWorld:=if 0≤i then { w with Zones:=w.Zones.set i.toNat z } else if w.Zones.length<8 then { w with Zones:=w.Zones++[z] } else w
def sPut (w:GWorld) (z:GZone):GWorld:=if sIsZone z=true then sPutAt w z (idx (fun y=>decide (sZoneId y=sZoneId z)) w.Zones) else w
theorem setP_zone {l:List GZone} {i:Nat} {x z:GZone} (hx:l[i]? = some x) (k:PV→Prop):setP (.list 2 (l.map eZone)) i 0 (eZone z) k=k (.list 2 ((l.set i z).map eZone)):=by
 have h1:(l.map eZone)[i]? = some (eZone x):=by rw [List.getElem?_map,hx];rfl
 have h2:over (eZone x) 0 (eZone z)=eZone z:=rfl
 simp only [setP,h1,h2,List.map_set]
 have h3:0+(eZone z).length≤(eZone x).length:=Nat.le_refl _
 simp [h3]
theorem boundP_at {sz:Nat} {l:List (List PV)} {i:Nat} (h:i<l.length) (k:Nat→Prop):boundP sz (.list sz l) (I i) k=k i:=by
 simp [boundP,h]
theorem Qib_n (w:GWorld) (z:GZone) (h:mWorld w≤1048576) (hz:mZone z≤1048576) (k):call Qib [.agg (eWorld w),.agg (eZone z)] k=k (eWorld (sPut w z)):=call_of (fun k=>by
 obtain ⟨_,⟨h5,hl,_⟩,_⟩:=worldB h
 have e1:=Qfk_n w h
 have e2:=Qhx_n z hz
 have e3:=impl_zoneAt_n w (sZoneId z) h5
 have e4:=Qfa_n z hz
 have hn:=zoneId_neg z
 have hb:=findI_bd (fun y=>decide (sZoneId y=sZoneId z)) w.Zones 0
 change idx (fun y=>decide (sZoneId y=sZoneId z)) w.Zones=-1∨_ at hb
 cases hq:sIsZone z with
 | false =>
  rw [hq] at hn
  have hlt:sZoneId z<0:=of_decide_eq_true hn
  simp [Qib,e1,e2,hlt,sPut,hq]
 | true =>
  rw [hq] at hn
  have hlt:¬sZoneId z<0:=of_decide_eq_false hn
  simp only [sPut,hq,if_true]
  generalize hi:idx (fun y=>decide (sZoneId y=sZoneId z)) w.Zones=i at *
  rcases hb with hb | hb
  ·subst hb
   by_cases h8:w.Zones.length<8
   ·have h8':(w.Zones.length:Int)<8:=by omega
    simp [Qib,e1,e2,e3,e4,hlt,sPutAt,h8]
    rw [if_pos h8']
    simp [eWorld,eZone]
    try omega
   ·have h8':¬(w.Zones.length:Int)<8:=by omega
    simp [Qib,e1,e2,e3,e4,hlt,sPutAt,h8]
    exact fun hc=>absurd hc h8'
  ·have hb2:0≤i∧i<(w.Zones.length:Int):=by
    have hb':((0:Nat):Int)≤i∧i<((0:Nat):Int)+w.Zones.length:=by rw [←hi];exact hb
    omega
   obtain ⟨n,rfl⟩:∃n:Nat,i=n:=⟨i.toNat,by omega⟩
   have hn':n<w.Zones.length:=by omega
   have hx:w.Zones[n]? = some w.Zones[n]:=List.getElem?_eq_getElem hn'
   have hs:=setP_zone (z:=z) hx
   have hbd:∀k,boundP 2 (.list 2 (w.Zones.map eZone)) (I (n:Int)) k=k n:=boundP_at (by simpa using hn')
   simp [-getElem?_pos,Qib,e1,e2,e3,e4,hlt,sPutAt,hbd,hs]
   rw [hx]
   simp [over,eZone,eWorld,List.map_set]) k
theorem Qep_n (w:GWorld) (z:GZone) (h:mWorld w≤1048576) (hz:mZone z≤1048576) (k):call Qep [.agg (eWorld w),.agg (eZone z)] k=k (eWorld (sPut w z)):=call_of (fun k=>by
 obtain ⟨_,⟨h5,hl,hz0⟩,_⟩:=worldB h
 have e1:=Qcv_n w h
 have e2:=Qen_n z hz
 have e3:=Qeo_n z hz
 have e4:=Qct_n z hz
 cases hq:sIsZone z with
 | false=>simp [Qep,e1,e2,hq,sPut]
 | true =>
  simp only [sPut,hq,if_true]
  simp [Qep,e1,e2,hq]
  refine lp_find (Q:=fun i=>k (eWorld (sPutAt w z i))) w.Zones (fun i=>[I i,I w.Now,(.list 1 (w.Actors.map eActor)),I 0,.list 17 (z.Chain.map eSigned),.list 4 (z.Entries.map eEntry),I w.Now,(.list 1 (w.Actors.map eActor)),(.list 2 (w.Zones.map eZone)),(.list 3 (w.Said.map eSaid)),(.list 2 (w.Servers.map eServer)),(.list 1 (w.Known.Chains.map eChainR)),(.list 51 (w.Known.Forks.map eFork)),(.list 23 (w.Cache.Lst.map eStored)),.list 23 [],.list 51 [],.list 1 [],.list 2 [],.list 3 [],.list 2 [],.list 1 [],(.list 2 (w.Zones.map eZone)),(.list 3 (w.Said.map eSaid)),(.list 2 (w.Servers.map eServer)),(.list 1 (w.Known.Chains.map eChainR)),(.list 51 (w.Known.Forks.map eFork)),(.list 23 (w.Cache.Lst.map eStored))]) (fun y=>decide (sZoneId y=sZoneId z)) (by simp) (fun i x hx hi K=>?_) fun K=>?_
  ·have e:=Qeo_n x (hz0 x (List.mem_of_getElem? hx))
   have hs:=setP_zone (z:=z) hx
   have hbd:∀k,boundP 2 (.list 2 (w.Zones.map eZone)) (I (i:Int)) k=k i:=boundP_at (by simpa using hi)
   by_cases c:sZoneId x=sZoneId z
   ·simp [-getElem?_pos,Qep_r0,hx,hi,e,e3,e4,c,hbd,hs,sPutAt]
    simp [over,eZone,eWorld,List.map_set]
   ·simp [-getElem?_pos,Qep_r0,hx,hi,e,e3,c,wr_succ (show i<1000000000000000000 by omega)]
  ·by_cases h8:w.Zones.length<8
   ·have h8':(w.Zones.length:Int)<8:=by omega
    simp [Qep_r0,e4,sPutAt,h8]
    rw [if_pos h8']
    simp [eWorld,eZone]
    try omega
   ·have h8':¬(w.Zones.length:Int)<8:=by omega
    simp [Qep_r0,e4,sPutAt,h8]
    exact fun hc=>absurd hc h8') k
def zEntry:GEntry:=⟨⟨#[]⟩,0,0,[]⟩
def zProof:GProof:=⟨0,[]⟩
def zGap:GGap:=⟨0,zEntry,zEntry,zProof,zProof⟩
theorem mz:mEntry zEntry≤1048576∧mProof zProof≤1048576∧mGap zGap≤1048576:=by decide
end Go.Ev
set_option linter.unusedVariables false
set_option linter.unusedSimpArgs false
set_option maxRecDepth 8000
set_option maxHeartbeats 2000000
namespace Go.Ev
open Go.Proofs
theorem callS {m:PV→Int→Option (PV×Int)} {p p':PV} {k k':Int} (h:m p k=some (p',k')) (hk:rg64 k=true) (K):call (gS m) [.one p,.one (I k)] K=K [p',I k']:=call_of (fun K=>by
 simp only [gS,hk,true_and,h]) K
theorem callT {m:List PV→Int→Option (List PV×Int)} {ps ps':List PV} {k k':Int} (h:m ps k=some (ps',k')) (hk:rg64 k=true) (K):call (gT m) [.agg ps,.one (I k)] K=K (ps'++[I k']):=call_of (fun K=>by
 simp only [gT,hk,true_and,h]) K
theorem laws_eqIntS_b (l:List Int) (h:l.length≤16777216) (k):call Qic [.one (ints l),.one (ints l)] k=k [.bool true]:=call_of (fun k=>by
 have hm:=h
 simp [Qic]
 refine lp_eqS l rI 1 (.bool false) rfl (fun i x hx hi K=>?_) fun K=>?_
 ·simp [-getElem?_pos,Qic_r0,hx,hi,wr_succ (show i<1000000000000000000 by omega)]
 ·simp [Qic_r0]) k
theorem laws_eqStringS_b (l:List ByteArray) (h:(l.length+sumN ByteArray.size l)≤16777216) (k):call Qil [.one (strs l),.one (strs l)] k=k [.bool true]:=call_of (fun k=>by
 have hm:=h
 simp [Qil]
 refine lp_eqS l rS 1 (.bool false) rfl (fun i x hx hi K=>?_) fun K=>?_
 ·simp [-getElem?_pos,Qil_r0,hx,hi,wr_succ (show i<1000000000000000000 by omega)]
 ·simp [Qil_r0]) k
theorem laws_eqKeys_b (a:GKeys) (h:mKeys a≤16777216) (k):call Qif [.agg (eKeys a),.agg (eKeys a)] k=k [.bool true]:=call_of (fun k=>by
 unfold mKeys at h
 simp [Qif,laws_eqIntS_b a.Lst (by omega)]) k
theorem laws_eqEntry_b (a:GEntry) (h:mEntry a≤16777216) (k):call Qim [.agg (eEntry a),.agg (eEntry a)] k=k [.bool true]:=call_of (fun k=>by
 unfold mEntry at h
 simp [Qim,laws_eqStringS_b a.Path (by omega)]) k
theorem laws_eqProof_b (a:GProof) (h:mProof a≤16777216) (k):call Qiy [.agg (eProof a),.agg (eProof a)] k=k [.bool true]:=call_of (fun k=>by
 unfold mProof at h
 simp [Qiy,laws_eqIntS_b a.Path (by omega)]) k
theorem laws_eqGap_b (a:GGap) (h:mGap a≤16777216) (k):call Qiz [.agg (eGap a),.agg (eGap a)] k=k [.bool true]:=call_of (fun k=>by
 unfold mGap at h
 simp [Qiz,laws_eqEntry_b a.Before (by omega),laws_eqEntry_b a.After (by omega),laws_eqProof_b a.Left (by omega),laws_eqProof_b a.Right (by omega)]) k
theorem laws_eqHead_b (a:GHead) (h:mHead a≤16777216) (k):call Qig [.agg (eHead a),.agg (eHead a)] k=k [.bool true]:=call_of (fun k=>by
 unfold mHead at h
 simp [Qig,laws_eqKeys_b a.Keys (by omega),laws_eqKeys_b a.Heirs (by omega),laws_eqKeys_b a.Judge (by omega)]) k
theorem laws_eqSigS_b (l:List GSig) (h:l.length≤16777216) (k):call Qii [.one (.list 2 (l.map eSig)),.one (.list 2 (l.map eSig))] k=k [.bool true]:=call_of (fun k=>by
 have hm:=h
 simp [Qii]
 refine lp_eqS l eSig 2 (.bool false) rfl (fun i x hx hi K=>?_) fun K=>?_
 ·simp [-getElem?_pos,Qii_r0,hx,hi,Qih_n x,wr_succ (show i<1000000000000000000 by omega)]
 ·simp [Qii_r0]) k
theorem laws_eqSigned_b (a:GSigned) (h:mSigned a≤16777216) (k):call Qij [.agg (eSigned a),.agg (eSigned a)] k=k [.bool true]:=call_of (fun k=>by
 unfold mSigned at h
 simp [Qij,laws_eqHead_b a.Head (by omega),laws_eqSigS_b a.Sigs (by omega)]) k
theorem laws_eqFork_b (a:GFork) (h:mFork a≤16777216) (k):call Qiv [.agg (eFork a),.agg (eFork a)] k=k [.bool true]:=call_of (fun k=>by
 unfold mFork at h
 simp [Qiv,laws_eqSigned_b a.Before (by omega),laws_eqSigned_b a.A (by omega),laws_eqSigned_b a.B (by omega)]) k
theorem laws_eqSignedS_b (l:List GSigned) (h:mSignedS l≤16777216) (k):call Qik [.one (.list 17 (l.map eSigned)),.one (.list 17 (l.map eSigned))] k=k [.bool true]:=call_of (fun k=>by
 have hm:=h
 unfold mSignedS at hm
 simp [Qik]
 refine lp_eqS l eSigned 17 (.bool false) rfl (fun i x hx hi K=>?_) fun K=>?_
 ·have hs:mSigned x≤sumN mSigned l:=sumN_mem (s:=mSigned) (List.mem_of_getElem? hx)
  simp [-getElem?_pos,Qik_r0,hx,hi,laws_eqSigned_b x (by omega),wr_succ (show i<1000000000000000000 by omega)]
 ·simp [Qik_r0]) k
theorem laws_eqEntryS_b (l:List GEntry) (h:mEntryS l≤16777216) (k):call Qin [.one (.list 4 (l.map eEntry)),.one (.list 4 (l.map eEntry))] k=k [.bool true]:=call_of (fun k=>by
 have hm:=h
 unfold mEntryS at hm
 simp [Qin]
 refine lp_eqS l eEntry 4 (.bool false) rfl (fun i x hx hi K=>?_) fun K=>?_
 ·have hs:mEntry x≤sumN mEntry l:=sumN_mem (s:=mEntry) (List.mem_of_getElem? hx)
  simp [-getElem?_pos,Qin_r0,hx,hi,laws_eqEntry_b x (by omega),wr_succ (show i<1000000000000000000 by omega)]
 ·simp [Qin_r0]) k
theorem laws_eqZone_b (a:GZone) (h:mZone a≤16777216) (k):call Qio [.agg (eZone a),.agg (eZone a)] k=k [.bool true]:=call_of (fun k=>by
 unfold mZone at h
 simp [Qio,laws_eqSignedS_b a.Chain (by omega),laws_eqEntryS_b a.Entries (by omega)]) k
theorem laws_eqAnswer_b (a:GAnswer) (h:mAnswer a≤16777216) (k):call Qja [.agg (eAnswer a),.agg (eAnswer a)] k=k [.bool true]:=call_of (fun k=>by
 unfold mAnswer at h
 simp [Qja,laws_eqSignedS_b a.Chain (by omega),laws_eqEntry_b a.Entry (by omega),laws_eqProof_b a.Proof (by omega),laws_eqGap_b a.Gap (by omega)]) k
theorem laws_eqSignedSS_b (l:List (List GSigned)) (h:mSignedSS l≤16777216) (k):call Qiu [.one (.list 1 (l.map (fun l:List GSigned=>[.list 17 (l.map eSigned)]))),.one (.list 1 (l.map (fun l:List GSigned=>[.list 17 (l.map eSigned)])))] k=k [.bool true]:=call_of (fun k=>by
 have hm:=h
 unfold mSignedSS at hm
 simp [Qiu]
 refine lp_eqS l (fun l:List GSigned=>[.list 17 (l.map eSigned)]) 1 (.bool false) rfl (fun i x hx hi K=>?_) fun K=>?_
 ·have hs:mSignedS x≤sumN mSignedS l:=sumN_mem (s:=mSignedS) (List.mem_of_getElem? hx)
  simp [-getElem?_pos,Qiu_r0,hx,hi,laws_eqSignedS_b x (by omega),wr_succ (show i<1000000000000000000 by omega)]
 ·simp [Qiu_r0]) k
theorem laws_eqForkS_b (l:List GFork) (h:mForkS l≤16777216) (k):call Qiw [.one (.list 51 (l.map eFork)),.one (.list 51 (l.map eFork))] k=k [.bool true]:=call_of (fun k=>by
 have hm:=h
 unfold mForkS at hm
 simp [Qiw]
 refine lp_eqS l eFork 51 (.bool false) rfl (fun i x hx hi K=>?_) fun K=>?_
 ·have hs:mFork x≤sumN mFork l:=sumN_mem (s:=mFork) (List.mem_of_getElem? hx)
  simp [-getElem?_pos,Qiw_r0,hx,hi,laws_eqFork_b x (by omega),wr_succ (show i<1000000000000000000 by omega)]
 ·simp [Qiw_r0]) k
theorem laws_eqKnown_b (a:GKnown) (h:mKnown a≤16777216) (k):call Qix [.agg (eKnown a),.agg (eKnown a)] k=k [.bool true]:=call_of (fun k=>by
 unfold mKnown at h
 simp [Qix,laws_eqSignedSS_b a.Chains (by omega),laws_eqForkS_b a.Forks (by omega)]) k
theorem laws_eqZoneS_b (l:List GZone) (h:mZoneS l≤16777216) (k):call Qip [.one (.list 2 (l.map eZone)),.one (.list 2 (l.map eZone))] k=k [.bool true]:=call_of (fun k=>by
 have hm:=h
 unfold mZoneS at hm
 simp [Qip]
 refine lp_eqS l eZone 2 (.bool false) rfl (fun i x hx hi K=>?_) fun K=>?_
 ·have hs:mZone x≤sumN mZone l:=sumN_mem (s:=mZone) (List.mem_of_getElem? hx)
  simp [-getElem?_pos,Qip_r0,hx,hi,laws_eqZone_b x (by omega),wr_succ (show i<1000000000000000000 by omega)]
 ·simp [Qip_r0]) k
theorem laws_eqServer_b (a:GServer) (h:mServer a≤16777216) (k):call Qis [.agg (eServer a),.agg (eServer a)] k=k [.bool true]:=call_of (fun k=>by
 unfold mServer at h
 simp [Qis,laws_eqZoneS_b a.Zones (by omega)]) k
theorem laws_eqStored_b (a:GStored) (h:mStored a≤16777216) (k):call Qjb [.agg (eStored a),.agg (eStored a)] k=k [.bool true]:=call_of (fun k=>by
 unfold mStored at h
 simp [Qjb,laws_eqAnswer_b a.Answer (by omega)]) k
theorem laws_eqStoredS_b (l:List GStored) (h:mStoredS l≤16777216) (k):call Qjc [.one (.list 23 (l.map eStored)),.one (.list 23 (l.map eStored))] k=k [.bool true]:=call_of (fun k=>by
 have hm:=h
 unfold mStoredS at hm
 simp [Qjc]
 refine lp_eqS l eStored 23 (.bool false) rfl (fun i x hx hi K=>?_) fun K=>?_
 ·have hs:mStored x≤sumN mStored l:=sumN_mem (s:=mStored) (List.mem_of_getElem? hx)
  simp [-getElem?_pos,Qjc_r0,hx,hi,laws_eqStored_b x (by omega),wr_succ (show i<1000000000000000000 by omega)]
 ·simp [Qjc_r0]) k
theorem laws_eqCache_b (a:GCache) (h:mCache a≤16777216) (k):call Qjd [.agg (eCache a),.agg (eCache a)] k=k [.bool true]:=call_of (fun k=>by
 unfold mCache at h
 simp [Qjd,laws_eqStoredS_b a.Lst (by omega)]) k
theorem laws_eqActor_b (a:GActor) (h:mActor a≤16777216) (k):call Qid [.agg (eActor a),.agg (eActor a)] k=k [.bool true]:=call_of (fun k=>by
 unfold mActor at h
 simp [Qid,laws_eqIntS_b a.Held (by omega)]) k
theorem laws_eqSaid_b (a:GSaid) (h:mSaid a≤16777216) (k):call Qiq [.agg (eSaid a),.agg (eSaid a)] k=k [.bool true]:=call_of (fun k=>by
 unfold mSaid at h
 simp [Qiq,laws_eqZone_b a.Zone (by omega),laws_eqIntS_b a.Held (by omega)]) k
theorem laws_eqActorS_b (l:List GActor) (h:mActorS l≤16777216) (k):call Qie [.one (.list 1 (l.map eActor)),.one (.list 1 (l.map eActor))] k=k [.bool true]:=call_of (fun k=>by
 have hm:=h
 unfold mActorS at hm
 simp [Qie]
 refine lp_eqS l eActor 1 (.bool false) rfl (fun i x hx hi K=>?_) fun K=>?_
 ·have hs:mActor x≤sumN mActor l:=sumN_mem (s:=mActor) (List.mem_of_getElem? hx)
  simp [-getElem?_pos,Qie_r0,hx,hi,laws_eqActor_b x (by omega),wr_succ (show i<1000000000000000000 by omega)]
 ·simp [Qie_r0]) k
theorem laws_eqSaidS_b (l:List GSaid) (h:mSaidS l≤16777216) (k):call Qir [.one (.list 3 (l.map eSaid)),.one (.list 3 (l.map eSaid))] k=k [.bool true]:=call_of (fun k=>by
 have hm:=h
 unfold mSaidS at hm
 simp [Qir]
 refine lp_eqS l eSaid 3 (.bool false) rfl (fun i x hx hi K=>?_) fun K=>?_
 ·have hs:mSaid x≤sumN mSaid l:=sumN_mem (s:=mSaid) (List.mem_of_getElem? hx)
  simp [-getElem?_pos,Qir_r0,hx,hi,laws_eqSaid_b x (by omega),wr_succ (show i<1000000000000000000 by omega)]
 ·simp [Qir_r0]) k
theorem laws_eqServerS_b (l:List GServer) (h:mServerS l≤16777216) (k):call Qit [.one (.list 2 (l.map eServer)),.one (.list 2 (l.map eServer))] k=k [.bool true]:=call_of (fun k=>by
 have hm:=h
 unfold mServerS at hm
 simp [Qit]
 refine lp_eqS l eServer 2 (.bool false) rfl (fun i x hx hi K=>?_) fun K=>?_
 ·have hs:mServer x≤sumN mServer l:=sumN_mem (s:=mServer) (List.mem_of_getElem? hx)
  simp [-getElem?_pos,Qit_r0,hx,hi,laws_eqServer_b x (by omega),wr_succ (show i<1000000000000000000 by omega)]
 ·simp [Qit_r0]) k
theorem laws_eqWorld_b (a:GWorld) (h:mWorld a≤16777216) (k):call Qje [.agg (eWorld a),.agg (eWorld a)] k=k [.bool true]:=call_of (fun k=>by
 unfold mWorld at h
 simp [Qje,laws_eqActorS_b a.Actors (by omega),laws_eqZoneS_b a.Zones (by omega),laws_eqSaidS_b a.Said (by omega),laws_eqServerS_b a.Servers (by omega),laws_eqKnown_b a.Known (by omega),laws_eqCache_b a.Cache (by omega)]) k
theorem sumN_app {α:Type} (f:α→Nat):∀(l m:List α),sumN f (l++m)=sumN f l+sumN f m
 | [],m=>by simp [sumN]
 | x::l,m=>by simp [sumN,sumN_app f l m];omega
theorem sumN_set {α:Type} (f:α→Nat) (z:α):∀(l:List α) (i:Nat),sumN f (l.set i z)≤sumN f l+f z
 | [],i=>by simp [sumN]
 | x::l,0=>by simp [sumN];omega
 | x::l,i+1=>by have:=sumN_set f z l i;simp [sumN];omega
theorem mPut (w:GWorld) (z:GZone):mWorld (sPut w z)≤mWorld w+mZone z+1:=by
 unfold sPut
 split
 ·unfold sPutAt
  split
  ·have:=sumN_set mZone z w.Zones (idx (fun y=>decide (sZoneId y=sZoneId z)) w.Zones).toNat
   simp only [mWorld,mZoneS,List.length_set]
   omega
  ·split
   ·have:=sumN_app mZone w.Zones [z]
    simp only [mWorld,mZoneS,List.length_append,this,sumN,List.length_cons,List.length_nil]
    omega
   ·omega
 ·omega
theorem laws_FnExactPutZone_law (pvss:List (List PV)) (h:HasEach [[.int .i64,.list [.list [.int .i64]],.list [.list [.int .i64,.int .i64,.int .i64,.int .i64,.int .i64,.int .i64,.int .i64,.int .i64,.list [.int .i64],.int .i64,.list [.int .i64],.int .i64,.int .i64,.list [.int .i64],.int .i64,.bool,.list [.int .i64,.int .i64]],.list [.str,.int .i64,.int .i64,.list [.str]]],.list [.list [.int .i64,.int .i64,.int .i64,.int .i64,.int .i64,.int .i64,.int .i64,.int .i64,.list [.int .i64],.int .i64,.list [.int .i64],.int .i64,.int .i64,.list [.int .i64],.int .i64,.bool,.list [.int .i64,.int .i64]],.list [.str,.int .i64,.int .i64,.list [.str]],.list [.int .i64]],.list [.list [.list [.int .i64,.int .i64,.int .i64,.int .i64,.int .i64,.int .i64,.int .i64,.int .i64,.list [.int .i64],.int .i64,.list [.int .i64],.int .i64,.int .i64,.list [.int .i64],.int .i64,.bool,.list [.int .i64,.int .i64]],.list [.str,.int .i64,.int .i64,.list [.str]]],.int .i64],.list [.list [.int .i64,.int .i64,.int .i64,.int .i64,.int .i64,.int .i64,.int .i64,.int .i64,.list [.int .i64],.int .i64,.list [.int .i64],.int .i64,.int .i64,.list [.int .i64],.int .i64,.bool,.list [.int .i64,.int .i64]]],.list [.int .i64,.int .i64,.int .i64,.int .i64,.int .i64,.int .i64,.int .i64,.int .i64,.list [.int .i64],.int .i64,.list [.int .i64],.int .i64,.int .i64,.list [.int .i64],.int .i64,.bool,.list [.int .i64,.int .i64],.int .i64,.int .i64,.int .i64,.int .i64,.int .i64,.int .i64,.int .i64,.int .i64,.list [.int .i64],.int .i64,.list [.int .i64],.int .i64,.int .i64,.list [.int .i64],.int .i64,.bool,.list [.int .i64,.int .i64],.int .i64,.int .i64,.int .i64,.int .i64,.int .i64,.int .i64,.int .i64,.int .i64,.list [.int .i64],.int .i64,.list [.int .i64],.int .i64,.int .i64,.list [.int .i64],.int .i64,.bool,.list [.int .i64,.int .i64]],.list [.int .i64,.str,.list [.int .i64,.int .i64,.int .i64,.int .i64,.int .i64,.int .i64,.int .i64,.int .i64,.list [.int .i64],.int .i64,.list [.int .i64],.int .i64,.int .i64,.list [.int .i64],.int .i64,.bool,.list [.int .i64,.int .i64]],.bool,.str,.int .i64,.int .i64,.list [.str],.int .i64,.list [.int .i64],.int .i64,.str,.int .i64,.int .i64,.list [.str],.str,.int .i64,.int .i64,.list [.str],.int .i64,.list [.int .i64],.int .i64,.list [.int .i64]]],[.list [.int .i64,.int .i64,.int .i64,.int .i64,.int .i64,.int .i64,.int .i64,.int .i64,.list [.int .i64],.int .i64,.list [.int .i64],.int .i64,.int .i64,.list [.int .i64],.int .i64,.bool,.list [.int .i64,.int .i64]],.list [.str,.int .i64,.int .i64,.list [.str]]]] pvss):laws_FnExactPutZone (avsOf Tryz.prog Tryz.f6.params.toList pvss) (fun o=>o=[PV.bool true]):=by
 obtain ⟨p0,r0,rfl,h0,hq0⟩:=each_cons h
 obtain ⟨p1,r1,rfl,h1,hq1⟩:=each_cons hq0
 rw [each_nil hq1]
 obtain ⟨x0,rfl,w0⟩:=decWorld _ h0
 obtain ⟨x1,rfl,w1⟩:=decZone _ h1
 rw [show avsOf Tryz.prog Tryz.f6.params.toList [eWorld x0,eZone x1]=[.agg (eWorld x0),.agg (eZone x1)] by kernel_rfl]
 have t1:=Qbb_n x0 1048576 w0 (by omega) (by omega)
 by_cases c0:((mWorld x0:Nat):Int)≤1048576
 rotate_left
 ·simp only [laws_FnExactPutZone,un,cur0,t1,szr_not c0,binP_lss,iteP_eq,atP_zero,atP_succ,show ((-1:Int)<0) by omega,decide_true,if_true,rt_eq,scs_sc,scs_nil,flat_bool,true_and]
 have t2:=Qal_n x1 (1048576-((mWorld x0:Nat):Int)) w1 (by omega) (by omega)
 by_cases c1:((mZone x1:Nat):Int)≤1048576-((mWorld x0:Nat):Int)
 rotate_left
 ·simp only [laws_FnExactPutZone,un,cur0,t1,t2,szr_yes c0,szr_not c1,binP_lss,iteP_eq,atP_zero,atP_succ,show ¬(1048576-((mWorld x0:Nat):Int)<0) by omega,show ((-1:Int)<0) by omega,decide_true,decide_false,Bool.false_eq_true,if_false,if_true,rt_eq,scs_sc,scs_nil,flat_bool,true_and]
 have s0:mWorld x0≤1048576:=by omega
 have s1:mZone x1≤1048576:=by omega
 have q1:=Qce_n x0 s0
 have q2:=Qje_n x0 s0
 have q3:=Qbo_n x1 s1
 have q4:=Qio_n x1 s1
 obtain ⟨c_1,c_2,c_3,c_4,c_5,c_6,c_7,kx,e1,b1,b2,_⟩:=marks_World x0 1 (by omega) (by omega)
 obtain ⟨d_1,d_2,kz,e2,b3,b4,_⟩:=marks_Zone x1 kx (by omega) (by omega)
 have mx:∀K,call laws_markWorld [.agg (eWorld x0),.one (I 1)] K=K [I x0.Now,c_1,c_2,c_3,c_4,c_5,c_6,c_7,I kx]:=callT e1 (by decide)
 have mz:∀K,call laws_markZone [.agg (eZone x1),.one (I kx)] K=K [d_1,d_2,I kz]:=callT e2 (rg_of (by omega) (by omega))
 have n1:¬(kz<0):=by omega
 have sp:=Qep_n x0 x1 s0 s1
 have im:=Qib_n x0 x1 s0 s1
 have hA:=mPut x0 x1
 have hnow:(sPut x0 x1).Now=(sPut x0 x1).Now:=rfl
 generalize sPut x0 x1=A at *
 have q5:=laws_eqWorld_b A (by omega)
 obtain ⟨a_1,a_2,a_3,a_4,a_5,a_6,a_7,kA,e3,b5,b6,hh⟩:=marks_World A 1 (by omega) (by omega)
 have mA:∀K,call laws_markWorld [.agg (eWorld A),.one (I 1)] K=K [I A.Now,a_1,a_2,a_3,a_4,a_5,a_6,a_7,I kA]:=callT e3 (by decide)
 have n2:¬(kA<0):=by omega
 have n0:¬(1048576-((mWorld x0:Nat):Int)<0):=by omega
 have n3:¬(1048576-((mWorld x0:Nat):Int)-((mZone x1:Nat):Int)<0):=by omega
 simp only [laws_FnExactPutZone,un,cur0,t1,t2,szr_yes c0,szr_yes c1,n0,n3,q1,q2,q3,q4,q5,sp,im,atP_zero,atP_succ,unP_not,Bool.not_true,iteP_eq,Bool.false_eq_true,if_false,flatCond_n,flatCond_pv,flatCond_nil,flat_int,flat_bool,flat_str,true_and,mx,mz,binP_lss,n1,n2,decide_false,mA,hh,binP_neq,bne_self_eq_false,rt_eq,scs_sc,scs_nil,and_true,and_self]
end Go.Ev
