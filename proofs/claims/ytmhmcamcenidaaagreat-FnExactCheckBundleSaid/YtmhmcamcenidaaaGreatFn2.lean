/- For each function the meaning that the evaluator gives it, proved, part 2. -/
import Derived.Test.YtmhmcamcenidaaaGreatFn1
set_option linter.unusedVariables false
set_option linter.unusedSimpArgs false
set_option maxRecDepth 100000
namespace Go.Ev
open Go.Proofs Go.Proofs.Tryz
def Qdq_r0 (v:List PV) (K:List PV→Prop) (x0k:Cur 9):Prop :=
 un 9 (fun v0 v1 v2 v3 v4 v5 v6 v7 v8 =>
  xac .lss v2 v1 fun r0 =>
  xad r0
   (xaj 1 v0 v2 fun c1 =>
   call Qdm [.one (atP c1 0)] fun o2 =>
   (1=1)∧(1≤16777216)∧(1=1)∧(0=0)∧(1=1)∧(xae [.nil 257 17] [.own 7])∧xbd 1 v8 (.list 1 [[(atP o2 0)]]) fun r3 =>
   xac .add v2 (I 1) fun r4 =>
   K [v0,v1,r4,v3,v4,v5,v6,v7,r3])
   (x0k v0 v1 v2 v3 v4 v5 v6 v7 v8)) v
def Qdq_r1 (v:List PV) (K:List PV→Prop) (x0k:Cur 12):Prop :=
 un 12 (fun v0 v1 v2 v3 v4 v5 v6 v7 v8 v9 v10 v11 =>
  xac .lss v5 v4 fun r0 =>
  xad r0
   (xaj 51 v3 v5 fun c1 =>
   call Qdp [.agg (s51 c1)] fun o2 =>
   (1=1)∧(51≤16777216)∧(51=51)∧(0=0)∧(51=51)∧(xae [.pv (I 0),.pv (I 0),.pv (I 0),.pv (I 0),.pv (I 0),.pv (I 0),.pv (I 0),.pv (I 0),.nil 3 1,.pv (I 0),.nil 3 1,.pv (I 0),.pv (I 0),.nil 3 1,.pv (I 0),zB,.nil 317 2,.pv (I 0),.pv (I 0),.pv (I 0),.pv (I 0),.pv (I 0),.pv (I 0),.pv (I 0),.pv (I 0),.nil 3 1,.pv (I 0),.nil 3 1,.pv (I 0),.pv (I 0),.nil 3 1,.pv (I 0),zB,.nil 317 2,.pv (I 0),.pv (I 0),.pv (I 0),.pv (I 0),.pv (I 0),.pv (I 0),.pv (I 0),.pv (I 0),.nil 3 1,.pv (I 0),.nil 3 1,.pv (I 0),.pv (I 0),.nil 3 1,.pv (I 0),zB,.nil 317 2] [.pv (atP o2 0),.pv (atP o2 1),.pv (atP o2 2),.pv (atP o2 3),.pv (atP o2 4),.pv (atP o2 5),.pv (atP o2 6),.pv (atP o2 7),.own 16,.pv (atP o2 9),.own 18,.pv (atP o2 11),.pv (atP o2 12),.own 21,.pv (atP o2 14),.pv (atP o2 15),.own 24,.pv (atP o2 17),.pv (atP o2 18),.pv (atP o2 19),.pv (atP o2 20),.pv (atP o2 21),.pv (atP o2 22),.pv (atP o2 23),.pv (atP o2 24),.own 33,.pv (atP o2 26),.own 35,.pv (atP o2 28),.pv (atP o2 29),.own 38,.pv (atP o2 31),.pv (atP o2 32),.own 41,.pv (atP o2 34),.pv (atP o2 35),.pv (atP o2 36),.pv (atP o2 37),.pv (atP o2 38),.pv (atP o2 39),.pv (atP o2 40),.pv (atP o2 41),.own 50,.pv (atP o2 43),.own 52,.pv (atP o2 45),.pv (atP o2 46),.own 55,.pv (atP o2 48),.pv (atP o2 49),.own 58])∧xbd 51 v10 (.list 51 [(s51 o2)]) fun r3 =>
   xac .add v5 (I 1) fun r4 =>
   K [v0,v1,v2,v3,v4,r4,v6,v7,v8,v9,r3,v11])
   (x0k v0 v1 v2 v3 v4 v5 v6 v7 v8 v9 v10 v11)) v
def Qdq:GM
 | [.agg u0],k=>un 2 (fun a0 a1 =>
  xaH a0 fun r0 =>
  lp (fun L w=>Qdq_r0 w L
   (fun q5 q6 q7 q8 q9 q10 q11 q12 q13=>xaH q9 fun r14 =>
    lp (fun L w=>Qdq_r1 w L
     (fun q15 q16 q17 q18 q19 q20 q21 q22 q23 q24 q25 q26=>rt [.own true 90 1,.own true 259 51] [q26,q25] k)) [q5,q6,q7,q9,r14,(I 0),q8,q9,q10,q11,q12,q13])) [a0,r0,(I 0),a0,a1,(.list 51 []),(.list 1 []),(.list 51 []),(.list 1 [])]) u0
 | _,_=>False
def Qdq_l:List LE:=[⟨none,0,⟨[(1,.one (.ptr 0 0)),(2,.one (.ptr 1 0)),(3,.one (.ptr 2 0)),(10,.one zB),(11,.one zB),(12,.one zB)],[(2,[.own 3,.own 4]),(1,[.own 5,.own 6]),(0,[zB,zB])],[(6,⟨.deep,259,51,(.bool false)⟩),(5,⟨.deep,90,1,(.bool false)⟩),(4,⟨.deep,259,51,(.bool false)⟩),(3,⟨.deep,90,1,(.bool false)⟩)],7,40,[]⟩,fun K k v=>Qdq_r0 v K (fun x0 x1 x2 x3 x4 x5 x6 x7 x8=>k (.exit 0) ⟨[(1,.one (.ptr 0 0)),(2,.one (.ptr 1 0)),(3,.one (.ptr 2 0)),(10,.one (.pv x0)),(11,.one (.pv x1)),(12,.one (.pv x2))],[(2,[.own 3,.own 4]),(1,[.own 5,.own 6]),(0,[.pv x3,.pv x4])],[(6,⟨.deep,259,51,x5⟩),(5,⟨.deep,90,1,x6⟩),(4,⟨.deep,259,51,x7⟩),(3,⟨.deep,90,1,x8⟩)],7,40,[]⟩)⟩,
 ⟨none,1,⟨[(1,.one (.ptr 0 0)),(2,.one (.ptr 1 0)),(3,.one (.ptr 2 0)),(10,.one zB),(11,.one zB),(12,.one zB),(25,.one zB),(26,.one zB),(27,.one zB)],[(2,[.own 3,.own 4]),(1,[.own 5,.own 6]),(0,[zB,zB])],[(6,⟨.deep,259,51,(.bool false)⟩),(5,⟨.deep,90,1,(.bool false)⟩),(4,⟨.deep,259,51,(.bool false)⟩),(3,⟨.deep,90,1,(.bool false)⟩)],7,40,[]⟩,fun K k v=>Qdq_r1 v K (fun x0 x1 x2 x3 x4 x5 x6 x7 x8 x9 x10 x11=>k (.exit 2) ⟨[(1,.one (.ptr 0 0)),(2,.one (.ptr 1 0)),(3,.one (.ptr 2 0)),(10,.one (.pv x0)),(11,.one (.pv x1)),(12,.one (.pv x2)),(25,.one (.pv x3)),(26,.one (.pv x4)),(27,.one (.pv x5))],[(2,[.own 3,.own 4]),(1,[.own 5,.own 6]),(0,[.pv x6,.pv x7])],[(6,⟨.deep,259,51,x8⟩),(5,⟨.deep,90,1,x9⟩),(4,⟨.deep,259,51,x10⟩),(3,⟨.deep,90,1,x11⟩)],7,40,[]⟩)⟩]
theorem Qdq_s:xaC [⟨[245],Qdm⟩,⟨[259],Qdp⟩] TT.nofl (kk [1,2,3,10,11,12,25,26,27,999999]) Qdq_l f198 Qdq_l:=⟨fun v K k h=>by
 apply xab h;(repeat intro _);rename_i h;exact km h
 ,fun v K k h=>by
 apply xab h;(repeat intro _);rename_i h;exact km h
 ,trivial⟩
theorem Qdq_w:EO ⟨[198],Qdq⟩:=oF (ec Qdm_w (ec Qdp_w en)) (keep:=(kk [1,2,3,10,11,12,25,26,27,999999])) (l:=Qdq_l) func198 Qdq_s fun av k h=>by
 unfold Qdq at h;split at h
 ·apply xab h;clear h;intro a0 a1 h;exact km h
 ·exact h.elim
def Qdr:GM
 | [.agg u0],k=>un 2 (fun a0 a1 =>
  call Qdh [.one a1] fun o0 =>
  rt [.sc,.own true 3 1] [a0,(atP o0 0)] k) u0
 | _,_=>False
theorem Qdr_w:EO ⟨[246],Qdr⟩:=oFz (ec Qdh_w en) func246 fun av k h=>by
 unfold Qdr at h;split at h
 ·apply xab h;clear h;intro a0 a1 h;exact km h
 ·exact h.elim
def Qds:GM
 | [.agg u0],k=>un 13 (fun a0 a1 a2 a3 a4 a5 a6 a7 a8 a9 a10 a11 a12 =>
  call Qdo [.agg [a1,a2,a3,a4]] fun o0 =>
  call Qdo [.agg [a5,a6,a7,a8]] fun o1 =>
  call Qdr [.agg [a9,a10]] fun o2 =>
  call Qdr [.agg [a11,a12]] fun o3 =>
  rt g19 [a0,(atP o0 0),(atP o0 1),(atP o0 2),(atP o0 3),(atP o1 0),(atP o1 1),(atP o1 2),(atP o1 3),(atP o2 0),(atP o2 1),(atP o3 0),(atP o3 1)] k) u0
 | _,_=>False
theorem Qds_w:EO ⟨[247],Qds⟩:=oFz (ec Qdo_w (ec Qdr_w en)) func247 fun av k h=>by
 unfold Qds at h;split at h
 ·apply xab h;clear h;(repeat intro _);rename_i h;exact km h
 ·exact h.elim
def Qdt:GM
 | [.agg u0],k=>un 21 (fun a0 a1 a2 a3 a4 a5 a6 a7 a8 a9 a10 a11 a12 a13 a14 a15 a16 a17 a18 a19 a20 =>
  call Qdm [.one a0] fun o0 =>
  call Qdo [.agg [a2,a3,a4,a5]] fun o1 =>
  call Qdr [.agg [a6,a7]] fun o2 =>
  call Qds [.agg [a8,a9,a10,a11,a12,a13,a14,a15,a16,a17,a18,a19,a20]] fun o3 =>
  rt g1 [(atP o0 0),a1,(atP o1 0),(atP o1 1),(atP o1 2),(atP o1 3),(atP o2 0),(atP o2 1),(atP o3 0),(atP o3 1),(atP o3 2),(atP o3 3),(atP o3 4),(atP o3 5),(atP o3 6),(atP o3 7),(atP o3 8),(atP o3 9),(atP o3 10),(atP o3 11),(atP o3 12)] k) u0
 | _,_=>False
theorem Qdt_w:EO ⟨[177],Qdt⟩:=oFz (ec Qdm_w (ec Qdo_w (ec Qdr_w (ec Qds_w en)))) func177 fun av k h=>by
 unfold Qdt at h;split at h
 ·apply xab h;clear h;(repeat intro _);rename_i h;exact km h
 ·exact h.elim
def Qdu:GM
 | [.agg u0],k=>un 23 (fun a0 a1 a2 a3 a4 a5 a6 a7 a8 a9 a10 a11 a12 a13 a14 a15 a16 a17 a18 a19 a20 a21 a22 =>
  call Qdt [.agg [a2,a3,a4,a5,a6,a7,a8,a9,a10,a11,a12,a13,a14,a15,a16,a17,a18,a19,a20,a21,a22]] fun o0 =>
  rt g20 [a0,a1,(atP o0 0),(atP o0 1),(atP o0 2),(atP o0 3),(atP o0 4),(atP o0 5),(atP o0 6),(atP o0 7),(atP o0 8),(atP o0 9),(atP o0 10),(atP o0 11),(atP o0 12),(atP o0 13),(atP o0 14),(atP o0 15),(atP o0 16),(atP o0 17),(atP o0 18),(atP o0 19),(atP o0 20)] k) u0
 | _,_=>False
theorem Qdu_w:EO ⟨[224],Qdu⟩:=oFz (ec Qdt_w en) func224 fun av k h=>by
 unfold Qdu at h;split at h
 ·apply xab h;clear h;(repeat intro _);rename_i h;exact km h
 ·exact h.elim
def Qdv_r0 (v:List PV) (K:List PV→Prop) (x0k:Cur 5):Prop :=
 un 5 (fun v0 v1 v2 v3 v4 =>
  xac .lss v2 v1 fun r0 =>
  xad r0
   (xaj 23 v0 v2 fun c1 =>
   call Qdu [.agg (s23 c1)] fun o2 =>
   (1=1)∧(23≤16777216)∧(23=23)∧(0=0)∧(23=23)∧(xae [.pv (I 0),.pv (.str ⟨#[]⟩),.nil 257 17,zB,.pv (.str ⟨#[]⟩),.pv (I 0),.pv (I 0),.nil 9 1,.pv (I 0),.nil 3 1,.pv (I 0),.pv (.str ⟨#[]⟩),.pv (I 0),.pv (I 0),.nil 9 1,.pv (.str ⟨#[]⟩),.pv (I 0),.pv (I 0),.nil 9 1,.pv (I 0),.nil 3 1,.pv (I 0),.nil 3 1] [.pv (atP o2 0),.pv (atP o2 1),.own 8,.pv (atP o2 3),.pv (atP o2 4),.pv (atP o2 5),.pv (atP o2 6),.own 13,.pv (atP o2 8),.own 15,.pv (atP o2 10),.pv (atP o2 11),.pv (atP o2 12),.pv (atP o2 13),.own 20,.pv (atP o2 15),.pv (atP o2 16),.pv (atP o2 17),.own 24,.pv (atP o2 19),.own 26,.pv (atP o2 21),.own 28])∧xbd 23 v4 (.list 23 [(s23 o2)]) fun r3 =>
   xac .add v2 (I 1) fun r4 =>
   K [v0,v1,r4,v3,r3])
   (x0k v0 v1 v2 v3 v4)) v
def Qdv:GM
 | [.agg u0],k=>un 1 (fun a0 =>
  xaH a0 fun r0 =>
  lp (fun L w=>Qdv_r0 w L
   (fun q5 q6 q7 q8 q9=>rt [.own true 221 23] [q9] k)) [a0,r0,(I 0),(.list 23 []),(.list 23 [])]) u0
 | _,_=>False
def Qdv_l:List LE:=[⟨none,0,⟨[(2,.one (.ptr 1 0)),(3,.one (.ptr 2 0)),(8,.one zB),(9,.one zB),(10,.one zB)],[(2,[.own 3]),(1,[.own 4])],[(4,⟨.deep,221,23,(.bool false)⟩),(3,⟨.deep,221,23,(.bool false)⟩)],5,23,[]⟩,fun K k v=>Qdv_r0 v K (fun x0 x1 x2 x3 x4=>k (.exit 0) ⟨[(2,.one (.ptr 1 0)),(3,.one (.ptr 2 0)),(8,.one (.pv x0)),(9,.one (.pv x1)),(10,.one (.pv x2))],[(2,[.own 3]),(1,[.own 4])],[(4,⟨.deep,221,23,x3⟩),(3,⟨.deep,221,23,x4⟩)],5,23,[]⟩)⟩]
theorem Qdv_s:xaC [⟨[224],Qdu⟩] TT.nofl (kk [2,3,8,9,10,999999]) Qdv_l f158 Qdv_l:=⟨fun v K k h=>by
 apply xab h;exact fun v0 v1 v2 v3 v4 h=>km h
 ,trivial⟩
theorem Qdv_w:EO ⟨[158],Qdv⟩:=oF (ec Qdu_w en) (keep:=(kk [2,3,8,9,10,999999])) (l:=Qdv_l) func158 Qdv_s fun av k h=>by
 unfold Qdv at h;split at h
 ·apply xab h;clear h;intro a0 h;exact km h
 ·exact h.elim
def Qdw:GM
 | [.one a0,.one a1,.one a2],k =>
  xac .leq a1 a0 fun r0 =>
  xad r0
   (xac .leq a0 a2 fun r1 =>
   rt [.sc] [r1] k)
   (rt [.sc] [(.bool false)] k)
 | _,_=>False
theorem Qdw_w:EO ⟨[266],Qdw⟩:=oFz en func266 fun av k h=>by
 unfold Qdw at h;split at h
 ·exact km h
 ·exact h.elim
def Qdx:GM
 | [.one a0],k =>
  call Qdw [.one a0,.one (I 0),.one (I 2147483646)] fun o0 =>
  rt [.sc] [(atP o0 0)] k
 | _,_=>False
theorem Qdx_w:EO ⟨[404],Qdx⟩:=oFz (ec Qdw_w en) func404 fun av k h=>by
 unfold Qdx at h;split at h
 ·exact km h
 ·exact h.elim
def Qdy:GM
 | [.agg u0],k=>un 16 (fun a0 a1 a2 a3 a4 a5 a6 a7 a8 a9 a10 a11 a12 a13 a14 a15 =>
  xac .geq a3 (I 0) fun r0 =>
  xad r0
   (xac .leq a3 a4 fun r1 =>
   xad r1
    (xac .leq a4 (I 100000) fun r2 =>
    xad r2
     (xac .sub a4 a3 fun r3 =>
     xac .leq r3 (I 200) fun r4 =>
     rt [.sc] [r4] k)
     (rt [.sc] [(.bool false)] k))
    (rt [.sc] [(.bool false)] k))
   (rt [.sc] [(.bool false)] k)) u0
 | _,_=>False
theorem Qdy_w:EO ⟨[409],Qdy⟩:=oFz en func409 fun av k h=>by
 unfold Qdy at h;split at h
 ·apply xab h;clear h;(repeat intro _);rename_i h;exact km h
 ·exact h.elim
def Qdz_r0 (v:List PV) (K:List PV→Prop) (x0k:Prop) (x1k:Cur 4):Prop :=
 un 4 (fun v0 v1 v2 v3 =>
  xac .lss v3 v2 fun r0 =>
  xad r0
   (xac .gtr v3 (I 0) fun r1 =>
   xad r1
    (xaj 1 v0 v3 fun c2 =>
    xac .sub v3 (I 1) fun r3 =>
    xaj 1 v0 r3 fun c4 =>
    xac .leq (atP c2 0) (atP c4 0) fun r5 =>
    xad r5
     (x0k)
     (xac .add v3 (I 1) fun r6 =>
     K [v0,v1,v2,r6]))
    (xac .add v3 (I 1) fun r7 =>
    K [v0,v1,v2,r7]))
   (x1k v0 v1 v2 v3)) v
def Qdz:GM
 | [.one a0],k =>
  xaH a0 fun r0 =>
  lp (fun L w=>Qdz_r0 w L
   (rt [.sc] [(.bool false)] k)
   (fun q8 q9 q10 q11=>rt [.sc] [(.bool true)] k)) [a0,(.bool false),r0,(I 0)]
 | _,_=>False
def Qdz_l:List LE:=[⟨none,0,⟨[(0,.one zB),(2,.one zB),(5,.one zB),(6,.one zB)],[],[],0,24,[]⟩,fun K k v=>Qdz_r0 v K (k .ret ⟨[(2,.one (.kb false))],[],[],0,24,[]⟩) (fun x0 x1 x2 x3=>k (.exit 0) ⟨[(0,.one (.pv x0)),(2,.one (.pv x1)),(5,.one (.pv x2)),(6,.one (.pv x3))],[],[],0,24,[]⟩)⟩]
theorem Qdz_s:xaC [] TT.nofl (kk [0,2,5,6,12,13,14,15,16,17,18,19,20,21,999999]) Qdz_l f370 Qdz_l:=⟨fun v K k h=>by
 apply xab h;exact fun v0 v1 v2 v3 h=>km h
 ,trivial⟩
theorem Qdz_w:EO ⟨[370],Qdz⟩:=oF en (keep:=(kk [0,2,5,6,12,13,14,15,16,17,18,19,20,21,999999])) (l:=Qdz_l) func370 Qdz_s fun av k h=>by
 unfold Qdz at h;split at h
 ·exact km h
 ·exact h.elim
def Qea:GM
 | [.one a0],k =>
  call Qdw [.one a0,.one (I 1),.one (I 99)] fun o0 =>
  rt [.sc] [(atP o0 0)] k
 | _,_=>False
theorem Qea_w:EO ⟨[371],Qea⟩:=oFz (ec Qdw_w en) func371 fun av k h=>by
 unfold Qea at h;split at h
 ·exact km h
 ·exact h.elim
def Qeb:GM
 | [.agg u0],k=>un 2 (fun a0 a1 =>
  xaH a0 fun r0 =>
  call Qdw [.one r0,.one (I 1),.one (I 4)] fun o1 =>
  xad (atP o1 0)
   (call Qdz [.one a0] fun o2 =>
   xad (atP o2 0)
    (xaj 1 a0 (I 0) fun c3 =>
    call Qea [.one (atP c3 0)] fun o4 =>
    xad (atP o4 0)
     (xaH a0 fun r5 =>
     xac .sub r5 (I 1) fun r6 =>
     xaj 1 a0 r6 fun c7 =>
     call Qea [.one (atP c7 0)] fun o8 =>
     xad (atP o8 0)
      (xaH a0 fun r9 =>
      call Qdw [.one a1,.one (I 1),.one r9] fun o10 =>
      rt [.sc] [(atP o10 0)] k)
      (rt [.sc] [(.bool false)] k))
     (rt [.sc] [(.bool false)] k))
    (rt [.sc] [(.bool false)] k))
   (rt [.sc] [(.bool false)] k)) u0
 | _,_=>False
theorem Qeb_w:EO ⟨[322],Qeb⟩:=oFz (ec Qdw_w (ec Qdz_w (ec Qea_w en))) func322 fun av k h=>by
 unfold Qeb at h;split at h
 ·apply xab h;clear h;intro a0 a1 h;exact km h
 ·exact h.elim
def Qec:GM
 | [.agg u0],k=>un 2 (fun a0 a1 =>
  xac .eql a1 (I 0) fun r0 =>
  xad r0
   (xaH a0 fun r1 =>
   xac .eql r1 (I 0) fun r2 =>
   rt [.sc] [r2] k)
   (rt [.sc] [(.bool false)] k)) u0
 | _,_=>False
theorem Qec_w:EO ⟨[412],Qec⟩:=oFz en func412 fun av k h=>by
 unfold Qec at h;split at h
 ·apply xab h;clear h;intro a0 a1 h;exact km h
 ·exact h.elim
def Qed:GM
 | [.agg u0],k=>un 2 (fun a0 a1 =>
  call Qec [.agg [a0,a1]] fun o0 =>
  xad (atP o0 0)
   (rt [.sc] [(.bool true)] k)
   (call Qeb [.agg [a0,a1]] fun o1 =>
   rt [.sc] [(atP o1 0)] k)) u0
 | _,_=>False
theorem Qed_w:EO ⟨[410],Qed⟩:=oFz (ec Qec_w (ec Qeb_w en)) func410 fun av k h=>by
 unfold Qed at h;split at h
 ·apply xab h;clear h;intro a0 a1 h;exact km h
 ·exact h.elim
def Qee:GM
 | [.one a0,.agg u0],k=>un 2 (fun a1 a2 =>
  call Qec [.agg [a1,a2]] fun o0 =>
  xad (atP o0 0)
   (xac .eql a0 (I 0) fun r1 =>
   rt [.sc] [r1] k)
   (call Qdw [.one a0,.one (I 1),.one (I 500)] fun o2 =>
   rt [.sc] [(atP o2 0)] k)) u0
 | _,_=>False
theorem Qee_w:EO ⟨[411],Qee⟩:=oFz (ec Qec_w (ec Qdw_w en)) func411 fun av k h=>by
 unfold Qee at h;split at h
 ·apply xab h;clear h;intro a1 a2 h;exact km h
 ·exact h.elim
def Qef:GM
 | [.agg u0],k=>un 16 (fun a0 a1 a2 a3 a4 a5 a6 a7 a8 a9 a10 a11 a12 a13 a14 a15 =>
  call Qdx [.one a0] fun o0 =>
  xad (atP o0 0)
   (call Qdx [.one a6] fun o1 =>
   xad (atP o1 0)
    (call Qdx [.one a7] fun o2 =>
    xad (atP o2 0)
     (call Qdw [.one a1,.one (I 0),.one (I 200)] fun o3 =>
     xad (atP o3 0)
      (call Qdw [.one a2,.one (I 1),.one (I 3)] fun o4 =>
      xad (atP o4 0)
       (call Qdy [.agg [a0,a1,a2,a3,a4,a5,a6,a7,a8,a9,a10,a11,a12,a13,a14,a15]] fun o5 =>
       xad (atP o5 0)
        (call Qdw [.one a5,.one (I 0),.one (I 12)] fun o6 =>
        xad (atP o6 0)
         (call Qeb [.agg [a8,a9]] fun o7 =>
         xad (atP o7 0)
          (call Qed [.agg [a10,a11]] fun o8 =>
          xad (atP o8 0)
           (call Qed [.agg [a13,a14]] fun o9 =>
           xad (atP o9 0)
            (call Qee [.one a12,.agg [a10,a11]] fun o10 =>
            xad (atP o10 0)
             (xad a15
              (call Qec [.agg [a13,a14]] fun o11 =>
              unP .not (atP o11 0) fun r12 =>
              rt [.sc] [r12] k)
              (rt [.sc] [(.bool true)] k))
             (rt [.sc] [(.bool false)] k))
            (rt [.sc] [(.bool false)] k))
           (rt [.sc] [(.bool false)] k))
          (rt [.sc] [(.bool false)] k))
         (rt [.sc] [(.bool false)] k))
        (rt [.sc] [(.bool false)] k))
       (rt [.sc] [(.bool false)] k))
      (rt [.sc] [(.bool false)] k))
     (rt [.sc] [(.bool false)] k))
    (rt [.sc] [(.bool false)] k))
   (rt [.sc] [(.bool false)] k)) u0
 | _,_=>False
theorem Qef_w:EO ⟨[378],Qef⟩:=oFz (ec Qdx_w (ec Qdw_w (ec Qdy_w (ec Qeb_w (ec Qed_w (ec Qee_w (ec Qec_w en))))))) func378 fun av k h=>by
 unfold Qef at h;split at h
 ·apply xab h;clear h;(repeat intro _);rename_i h;exact km h
 ·exact h.elim
def Qeg:GM
 | [.agg u0],k=>un 2 (fun a0 a1 =>
  xaH a0 fun r0 =>
  (2=2)∧(2≤16777216)∧(1=1)∧(0=0)∧(1=1)∧(xae [.pv (I 0)] [.pv a1])∧(1=1)∧(1=1)∧(xae [.pv (I 0)] [.pv r0])∧(xaZ a0)∧xbd 1 (.list 1 [[a1],[r0]]) a0 fun r1 =>
  rt [.own true 3 1] [r1] k) u0
 | _,_=>False
theorem Qeg_w:EO ⟨[418],Qeg⟩:=oFz en func418 fun av k h=>by
 unfold Qeg at h;split at h
 ·apply xab h;clear h;intro a0 a1 h;exact km h
 ·exact h.elim
def Qeh:GM
 | [.one a0,.one a1],k =>
  call Qdw [.one a1,.one (I 1),.one (I 1000000000000)] fun o0 =>
  unP .not (atP o0 0) fun r1 =>
  xad r1
   (rt [.sc] [(I 0)] k)
   (xac .rem a0 a1 fun r2 =>
   xac .add r2 a1 fun r3 =>
   xac .rem r3 a1 fun r4 =>
   rt [.sc] [r4] k)
 | _,_=>False
theorem Qeh_w:EO ⟨[306],Qeh⟩:=oFz (ec Qdw_w en) func306 fun av k h=>by
 unfold Qeh at h;split at h
 ·exact km h
 ·exact h.elim
def Qei_r0 (v:List PV) (K:List PV→Prop) (x0k:Cur 5):Prop :=
 un 5 (fun v0 v1 v2 v3 v4 =>
  xac .lss v4 v3 fun r0 =>
  xad r0
   (xaj 1 v2 v4 fun c1 =>
   xac .mul v1 (I 1000003) fun r2 =>
   call Qeh [.one (atP c1 0),.one (I 2147483647)] fun o3 =>
   xac .add r2 (atP o3 0) fun r4 =>
   xac .add r4 (I 13) fun r5 =>
   xac .rem r5 (I 2147483647) fun r6 =>
   xac .add v4 (I 1) fun r7 =>
   K [v0,r6,v2,v3,r7])
   (x0k v0 v1 v2 v3 v4)) v
def Qei:GM
 | [.one a0],k =>
  xaH a0 fun r0 =>
  lp (fun L w=>Qei_r0 w L
   (fun q8 q9 q10 q11 q12=>rt [.sc] [q9] k)) [(I 0),(I 11),a0,r0,(I 0)]
 | _,_=>False
def Qei_l:List LE:=[⟨none,0,⟨[(2,.one zB),(3,.one zB),(6,.one zB),(7,.one zB),(8,.one zB)],[],[],0,21,[]⟩,fun K k v=>Qei_r0 v K (fun x0 x1 x2 x3 x4=>k (.exit 0) ⟨[(2,.one (.pv x0)),(3,.one (.pv x1)),(6,.one (.pv x2)),(7,.one (.pv x3)),(8,.one (.pv x4))],[],[],0,21,[]⟩)⟩]
theorem Qei_s:xaC [⟨[306],Qeh⟩] TT.nofl (kk [2,3,6,7,8,999999]) Qei_l f250 Qei_l:=⟨fun v K k h=>by
 apply xab h;exact fun v0 v1 v2 v3 v4 h=>km h
 ,trivial⟩
theorem Qei_w:EO ⟨[250],Qei⟩:=oF (ec Qeh_w en) (keep:=(kk [2,3,6,7,8,999999])) (l:=Qei_l) func250 Qei_s fun av k h=>by
 unfold Qei at h;split at h
 ·exact km h
 ·exact h.elim
def Qej:GM
 | [.agg u0,.one a2],k=>un 2 (fun a0 a1 =>
  (2=2)∧(2≤16777216)∧(1=1)∧(0=0)∧(1=1)∧(xae [.pv (I 0)] [.pv (I 239)])∧(1=1)∧(1=1)∧(xae [.pv (I 0)] [.pv a2])∧call Qeg [.agg [a0,a1]] fun o0 =>
  xbd 1 (.list 1 [[(I 239)],[a2]]) (atP o0 0) fun r1 =>
  call Qei [.one r1] fun o2 =>
  rt [.sc] [(atP o2 0)] k) u0
 | _,_=>False
theorem Qej_w:EO ⟨[402],Qej⟩:=oFz (ec Qeg_w (ec Qei_w en)) func402 fun av k h=>by
 unfold Qej at h;split at h
 ·apply xab h;clear h;intro a0 a1 h;exact km h
 ·exact h.elim
def Qek:GM
 | [.one a0],k =>
  xad a0
   (rt [.sc] [(I 1)] k)
   (rt [.sc] [(I 0)] k)
 | _,_=>False
theorem Qek_w:EO ⟨[419],Qek⟩:=oFz en func419 fun av k h=>by
 unfold Qek at h;split at h
 ·exact km h
 ·exact h.elim
def Qel:GM
 | [.nil 3 1,.one a0],k =>
  xac .lss a0 (I 0) fun r0 =>
  xad r0
   (False)
   (xaH (.list 1 []) fun r1 =>
   xac .sub (I 0) r1 fun r2 =>
   xac .sub a0 r2 fun r3 =>
   xac .gtr r3 (I 0) fun r4 =>
   xad r4
    (xg6 (I 0) fun n5 =>
    (0=0)∧(n5=0)∧((Go.Ev.tI.ik=some Go.IntKind.i64))∧(1=1)∧xgW 1 r3 [(I 0)] fun r6 =>
    xaH (.list 1 []) fun r7 =>
    xg6 r7 fun n8 =>
    xf8 1 r6 none (some n8) fun r9 =>
    rt [.own true 3 1] [r9] k)
    (rt [.own true 3 1] [(.list 1 [])] k))
 | _,_=>False
theorem Qel_w:EO ⟨[428,999999],Qel⟩:=oMz en func428 fun av k h=>by
 unfold Qel at h;split at h
 ·exact km h
 ·exact h.elim
def Qem_r0 (v:List PV) (K:List PV→Prop) (x0k:Cur 6):Prop :=
 un 6 (fun v0 v1 v2 v3 v4 v5 =>
  xac .lss v4 v3 fun r0 =>
  xad r0
   (xaj 1 v2 v4 fun c1 =>
   xaH (atP c1 0) fun r2 =>
   xac .add v1 r2 fun r3 =>
   xac .lss r3 (I 0) fun r4 =>
   xad r4
    (False)
    (xac .add v4 (I 1) fun r5 =>
    K [v0,r3,v2,v3,r5,v5]))
   (x0k v0 v1 v2 v3 v4 v5)) v
def Qem_r1 (v:List PV) (K:List PV→Prop) (x0k:Cur 10):Prop :=
 un 10 (fun v0 v1 v2 v3 v4 v5 v6 v7 v8 v9 =>
  xac .lss v7 v6 fun r0 =>
  xad r0
   (xaj 1 v5 v7 fun c1 =>
   (xaZ (atP c1 0))∧xbd 1 v8 (atP c1 0) fun r2 =>
   xac .add v7 (I 1) fun r3 =>
   K [v0,v1,v2,v3,v4,v5,v6,r3,r2,v9])
   (x0k v0 v1 v2 v3 v4 v5 v6 v7 v8 v9)) v
def Qem:GM
 | [.one a0],k =>
  xaH a0 fun r0 =>
  lp (fun L w=>Qem_r0 w L
   (fun q6 q7 q8 q9 q10 q11=>call Qel [.nil 3 1,.one q7] fun o12 =>
    xaH q6 fun r13 =>
    lp (fun L w=>Qem_r1 w L
     (fun q14 q15 q16 q17 q18 q19 q20 q21 q22 q23=>rt [.own true 3 1] [q22] k)) [q6,q7,q8,q9,q10,q6,r13,(I 0),(atP o12 0),q11])) [a0,(I 0),a0,r0,(I 0),(.list 1 [])]
 | _,_=>False
def Qem_l:List LE:=[⟨none,0,⟨[(0,.one zB),(2,.one (.own 0)),(3,.one zB),(9,.one zB),(10,.one zB),(11,.one zB)],[],[(0,⟨.deep,3,1,(.bool false)⟩)],1,36,[]⟩,fun K k v=>Qem_r0 v K (fun x0 x1 x2 x3 x4 x5=>k (.exit 0) ⟨[(0,.one (.pv x0)),(2,.one (.own 0)),(3,.one (.pv x1)),(9,.one (.pv x2)),(10,.one (.pv x3)),(11,.one (.pv x4))],[],[(0,⟨.deep,3,1,x5⟩)],1,36,[]⟩)⟩,
 ⟨none,1,⟨[(0,.one zB),(2,.one (.own 0)),(3,.one zB),(6,.one (.own 1)),(9,.one zB),(10,.one zB),(11,.one zB),(25,.one zB),(26,.one zB),(27,.one zB)],[],[(1,⟨.deep,3,1,(.bool false)⟩),(0,⟨.deep,3,1,(.bool false)⟩)],2,36,[]⟩,fun K k v=>Qem_r1 v K (fun x0 x1 x2 x3 x4 x5 x6 x7 x8 x9=>k (.exit 2) ⟨[(0,.one (.pv x0)),(2,.one (.own 0)),(3,.one (.pv x1)),(6,.one (.own 1)),(9,.one (.pv x2)),(10,.one (.pv x3)),(11,.one (.pv x4)),(25,.one (.pv x5)),(26,.one (.pv x6)),(27,.one (.pv x7))],[],[(1,⟨.deep,3,1,x8⟩),(0,⟨.deep,3,1,x9⟩)],2,36,[]⟩)⟩]
theorem Qem_s:xaC [⟨[428,999999],Qel⟩] TT (kk [0,2,3,6,9,10,11,25,26,27]) Qem_l f417 Qem_l:=⟨fun v K k h=>by
 apply xab h;exact fun v0 v1 v2 v3 v4 v5 h=>km h
 ,fun v K k h=>by
 apply xab h;(repeat intro _);rename_i h;exact km h
 ,trivial⟩
theorem Qem_w:EO ⟨[417],Qem⟩:=oN (ec Qel_w en) (keep:=(kk [0,2,3,6,9,10,11,25,26,27])) (l:=Qem_l) func417 Qem_s fun av k h=>by
 unfold Qem at h;split at h
 ·exact km h
 ·exact h.elim
def Qen:GM
 | [.agg u0],k=>un 16 (fun a0 a1 a2 a3 a4 a5 a6 a7 a8 a9 a10 a11 a12 a13 a14 a15 =>
  (8=8)∧(8≤16777216)∧(1=1)∧(0=0)∧(1=1)∧(xae [.pv (I 0)] [.pv a0])∧(1=1)∧(1=1)∧(xae [.pv (I 0)] [.pv a1])∧(2=2)∧(1=1)∧(xae [.pv (I 0)] [.pv a2])∧(3=3)∧(1=1)∧(xae [.pv (I 0)] [.pv a3])∧(4=4)∧(1=1)∧(xae [.pv (I 0)] [.pv a4])∧(5=5)∧(1=1)∧(xae [.pv (I 0)] [.pv a5])∧(6=6)∧(1=1)∧(xae [.pv (I 0)] [.pv a6])∧(7=7)∧(1=1)∧(xae [.pv (I 0)] [.pv a7])∧call Qeg [.agg [a8,a9]] fun o0 =>
  call Qeg [.agg [a10,a11]] fun o1 =>
  (1=1)∧(1≤16777216)∧(1=1)∧(0=0)∧(1=1)∧(xae [.pv (I 0)] [.pv a12])∧call Qeg [.agg [a13,a14]] fun o2 =>
  call Qek [.one a15] fun o3 =>
  (1=1)∧(1≤16777216)∧(1=1)∧(0=0)∧(1=1)∧(xae [.pv (I 0)] [.pv (atP o3 0)])∧(6=6)∧(6≤16777216)∧(1=1)∧(0=0)∧(1=1)∧(xae [.nil 3 1] [.own 1])∧(1=1)∧(1=1)∧(xae [.nil 3 1] [.own 2])∧(2=2)∧(1=1)∧(xae [.nil 3 1] [.own 3])∧(3=3)∧(1=1)∧(xae [.nil 3 1] [.own 4])∧(4=4)∧(1=1)∧(xae [.nil 3 1] [.own 5])∧(5=5)∧(1=1)∧(xae [.nil 3 1] [.own 7])∧call Qem [.one (.list 1 [[(.list 1 [[a0],[a1],[a2],[a3],[a4],[a5],[a6],[a7]])],[(atP o0 0)],[(atP o1 0)],[(.list 1 [[a12]])],[(atP o2 0)],[(.list 1 [[(atP o3 0)]])]])] fun o4 =>
  rt [.own true 3 1] [(atP o4 0)] k) u0
 | _,_=>False
theorem Qen_w:EO ⟨[384],Qen⟩:=oFz (ec Qeg_w (ec Qek_w (ec Qem_w en))) func384 fun av k h=>by
 unfold Qen at h;split at h
 ·apply xab h;clear h;(repeat intro _);rename_i h;exact km h
 ·exact h.elim
def Qeo:GM
 | [.one a0,.one a1],k =>
  (1=1)∧(1≤16777216)∧(1=1)∧(0=0)∧(1=1)∧(xae [.pv (I 0)] [.pv a0])∧(1=1)∧(1≤16777216)∧(1=1)∧(0=0)∧(1=1)∧(xae [.pv (I 0)] [.pv a0])∧(3=3)∧(3≤16777216)∧(1=1)∧(0=0)∧(1=1)∧(xae [.nil 3 1] [.own 0])∧(1=1)∧(1=1)∧(2=2)∧(1=1)∧(xae [.nil 3 1] [.own 1])∧call Qem [.one (.list 1 [[(.list 1 [[a0]])],[a1],[(.list 1 [[a0]])]])] fun o0 =>
  call Qei [.one (atP o0 0)] fun o1 =>
  rt [.sc] [(atP o1 0)] k
 | _,_=>False
theorem Qeo_w:EO ⟨[427],Qeo⟩:=oFz (ec Qem_w (ec Qei_w en)) func427 fun av k h=>by
 unfold Qeo at h;split at h
 ·exact km h
 ·exact h.elim
def Qep:GM
 | [.one a0,.one a1],k =>
  (1=1)∧(1≤16777216)∧(1=1)∧(0=0)∧(1=1)∧(xae [.pv (I 0)] [.pv (I 223)])∧(xaZ a1)∧xbd 1 (.list 1 [[(I 223)]]) a1 fun r0 =>
  call Qeo [.one a0,.one r0] fun o1 =>
  rt [.sc] [(atP o1 0)] k
 | _,_=>False
theorem Qep_w:EO ⟨[416],Qep⟩:=oFz (ec Qeo_w en) func416 fun av k h=>by
 unfold Qep at h;split at h
 ·exact km h
 ·exact h.elim
def Qeq:GM
 | [.agg u0,.one a2],k=>un 2 (fun a0 a1 =>
  call Qea [.one a0] fun o0 =>
  xad (atP o0 0)
   (call Qep [.one a0,.one a2] fun o1 =>
   xac .eql a1 (atP o1 0) fun r2 =>
   rt [.sc] [r2] k)
   (rt [.sc] [(.bool false)] k)) u0
 | _,_=>False
theorem Qeq_w:EO ⟨[434],Qeq⟩:=oFz (ec Qea_w (ec Qep_w en)) func434 fun av k h=>by
 unfold Qeq at h;split at h
 ·apply xab h;clear h;intro a0 a1 h;exact km h
 ·exact h.elim
def Qer:GM
 | [.agg u0,.ro (.cells u1),.ro (.cells u2)],k=>un 2 (fun a0 a1=>un 1 (fun a2=>un 1 (fun a3 =>
  xac .eql a0 a2 fun r0 =>
  xad r0
   (call Qeq [.agg [a0,a1],.one a3] fun o1 =>
   rt [.sc] [(atP o1 0)] k)
   (rt [.sc] [(.bool false)] k)) u2) u1) u0
 | _,_=>False
theorem Qer_w:EO ⟨[433],Qer⟩:=oFz (ec Qeq_w en) func433 fun av k h=>by
 unfold Qer at h;split at h
 ·apply xab h;clear h;intro a0 a1 h;apply xab h;clear h;intro a2 h;apply xab h;clear h;intro a3 h;exact km h
 ·exact h.elim
def Qes_r0 (v:List PV) (K:List PV→Prop) (x0k:PV→Prop) (x1k:Cur 6):Prop :=
 un 6 (fun v0 v1 v2 v3 v4 v5 =>
  xac .lss v5 v4 fun r0 =>
  xad r0
   (xaj 2 v0 v5 fun c1 =>
   call Qer [.agg [(atP c1 0),(atP c1 1)],.ro (.cells [v1]),.ro (.cells [v2])] fun o2 =>
   xad (atP o2 0)
    (x0k v5)
    (xac .add v5 (I 1) fun r3 =>
    K [v0,v1,v2,v3,v4,r3]))
   (x1k v0 v1 v2 v3 v4 v5)) v
def Qes:GM
 | [.one a0,.fn 433 [.cells u0,.cells u1]],k=>un 1 (fun a1=>un 1 (fun a2 =>
  xaH a0 fun r0 =>
  lp (fun L w=>Qes_r0 w L
   (fun q4=>rt [.sc] [q4] k)
   (fun q5 q6 q7 q8 q9 q10=>rt [.sc] [(I (-1))] k)) [a0,a1,a2,(I 0),r0,(I 0)]) u1) u0
 | _,_=>False
def Qes_l:List LE:=[⟨none,0,⟨[(0,.one zB),(1,.one (.fn 433 [.ro (.cells [(.bool false)]),.ro (.cells [(.bool false)])])),(4,.one zB),(7,.one zB),(8,.one zB)],[],[],0,19,[]⟩,fun K k v=>Qes_r0 v K (fun x0=>k .ret ⟨[(4,.one (.pv x0))],[],[],1,19,[]⟩) (fun x0 x1 x2 x3 x4 x5=>k (.exit 0) ⟨[(0,.one (.pv x0)),(1,.one (.fn 433 [.ro (.cells [x1]),.ro (.cells [x2])])),(4,.one (.pv x3)),(7,.one (.pv x4)),(8,.one (.pv x5))],[],[],0,19,[]⟩)⟩]
theorem Qes_s:xaC [⟨[433],Qer⟩] TT (kk [0,1,4,7,8]) Qes_l f435 Qes_l:=⟨fun v K k h=>by
 apply xab h;exact fun v0 v1 v2 v3 v4 v5 h=>km h
 ,trivial⟩
theorem Qes_w:EO ⟨[435,433],Qes⟩:=oN (ec Qer_w en) (keep:=(kk [0,1,4,7,8])) (l:=Qes_l) func435 Qes_s fun av k h=>by
 unfold Qes at h;split at h
 ·apply xab h;clear h;intro a1 h;apply xab h;clear h;intro a2 h;exact km h
 ·exact h.elim
def Qet:GM
 | [.one a0,.fn 433 [.cells u0,.cells u1]],k=>un 1 (fun a1=>un 1 (fun a2 =>
  call Qes [.one a0,.fn 433 [.cells [a1],.cells [a2]]] fun o0 =>
  xac .geq (atP o0 0) (I 0) fun r1 =>
  rt [.sc] [r1] k) u1) u0
 | _,_=>False
theorem Qet_w:EO ⟨[432,433],Qet⟩:=oNz (ec Qes_w en) func432 fun av k h=>by
 unfold Qet at h;split at h
 ·apply xab h;clear h;intro a1 h;apply xab h;clear h;intro a2 h;exact km h
 ·exact h.elim
def Qeu_r0 (v:List PV) (K:List PV→Prop) (x0k:Cur 7):Prop :=
 un 7 (fun v0 v1 v2 v3 v4 v5 v6 =>
  xac .lss v5 v4 fun r0 =>
  xad r0
   (xaj 1 v3 v5 fun c1 =>
   call Qet [.one v0,.fn 433 [.cells [(atP c1 0)],.cells [v6]]] fun o2 =>
   xad (atP o2 0)
    (xac .add v2 (I 1) fun r3 =>
    xac .add v5 (I 1) fun r4 =>
    K [v0,v1,r3,v3,v4,r4,v6])
    (xac .add v5 (I 1) fun r5 =>
    K [v0,v1,v2,v3,v4,r5,v6]))
   (x0k v0 v1 v2 v3 v4 v5 v6)) v
def Qeu:GM
 | [.agg u0,.one a2,.one a3],k=>un 2 (fun a0 a1 =>
  xaH a0 fun r0 =>
  lp (fun L w=>Qeu_r0 w L
   (fun q6 q7 q8 q9 q10 q11 q12=>rt [.sc] [q8] k)) [a3,(I 0),(I 0),a0,r0,(I 0),a2]) u0
 | _,_=>False
def Qeu_l:List LE:=[⟨none,0,⟨[(2,.one zB),(4,.one (.ptr 1 0)),(6,.one zB),(7,.one zB),(11,.one zB),(12,.one zB),(13,.one zB)],[(1,[zB])],[],2,24,[]⟩,fun K k v=>Qeu_r0 v K (fun x0 x1 x2 x3 x4 x5 x6=>k (.exit 0) ⟨[(2,.one (.pv x0)),(4,.one (.ptr 1 0)),(6,.one (.pv x1)),(7,.one (.pv x2)),(11,.one (.pv x3)),(12,.one (.pv x4)),(13,.one (.pv x5))],[(1,[.pv x6])],[],2,24,[]⟩)⟩]
theorem Qeu_s:xaC [⟨[432,433],Qet⟩] TT.nofl (kk [2,4,6,7,11,12,13,999999]) Qeu_l f430 Qeu_l:=⟨fun v K k h=>by
 apply xab h;exact fun v0 v1 v2 v3 v4 v5 v6 h=>km h
 ,trivial⟩
theorem Qeu_w:EO ⟨[430],Qeu⟩:=oF (ec Qet_w en) (keep:=(kk [2,4,6,7,11,12,13,999999])) (l:=Qeu_l) func430 Qeu_s fun av k h=>by
 unfold Qeu at h;split at h
 ·apply xab h;clear h;intro a0 a1 h;exact km h
 ·exact h.elim
def Qev:GM
 | [.agg u0,.one a2,.one a3],k=>un 2 (fun a0 a1 =>
  call Qeb [.agg [a0,a1]] fun o0 =>
  xad (atP o0 0)
   (call Qeu [.agg [a0,a1],.one a2,.one a3] fun o1 =>
   xac .geq (atP o1 0) a1 fun r2 =>
   rt [.sc] [r2] k)
   (rt [.sc] [(.bool false)] k)) u0
 | _,_=>False
theorem Qev_w:EO ⟨[425],Qev⟩:=oFz (ec Qeb_w (ec Qeu_w en)) func425 fun av k h=>by
 unfold Qev at h;split at h
 ·apply xab h;clear h;intro a0 a1 h;exact km h
 ·exact h.elim
def Qew:GM
 | [.agg u0,.agg u1],k=>un 17 (fun a0 a1 a2 a3 a4 a5 a6 a7 a8 a9 a10 a11 a12 a13 a14 a15 a16=>un 2 (fun a17 a18 =>
  call Qen [.agg [a0,a1,a2,a3,a4,a5,a6,a7,a8,a9,a10,a11,a12,a13,a14,a15]] fun o0 =>
  call Qev [.agg [a17,a18],.one (atP o0 0),.one a16] fun o1 =>
  rt [.sc] [(atP o1 0)] k) u1) u0
 | _,_=>False
theorem Qew_w:EO ⟨[403],Qew⟩:=oFz (ec Qen_w (ec Qev_w en)) func403 fun av k h=>by
 unfold Qew at h;split at h
 ·apply xab h;clear h;(repeat intro _);rename_i h;apply xab h;clear h;intro a17 a18 h;exact km h
 ·exact h.elim
def Qex:GM
 | [.agg u0],k=>un 17 (fun a0 a1 a2 a3 a4 a5 a6 a7 a8 a9 a10 a11 a12 a13 a14 a15 a16 =>
  call Qef [.agg [a0,a1,a2,a3,a4,a5,a6,a7,a8,a9,a10,a11,a12,a13,a14,a15]] fun o0 =>
  xad (atP o0 0)
   (xac .eql a1 (I 0) fun r1 =>
   xad r1
    (xac .eql a2 (I 1) fun r2 =>
    xad r2
     (unP .not a15 fun r3 =>
     xad r3
      (call Qej [.agg [a8,a9],.one a7] fun o4 =>
      xac .eql a0 (atP o4 0) fun r5 =>
      xad r5
       (call Qew [.agg [a0,a1,a2,a3,a4,a5,a6,a7,a8,a9,a10,a11,a12,a13,a14,a15,a16],.agg [a8,a9]] fun o6 =>
       rt [.sc] [(atP o6 0)] k)
       (rt [.sc] [(.bool false)] k))
      (rt [.sc] [(.bool false)] k))
     (rt [.sc] [(.bool false)] k))
    (rt [.sc] [(.bool false)] k))
   (rt [.sc] [(.bool false)] k)) u0
 | _,_=>False
theorem Qex_w:EO ⟨[363],Qex⟩:=oFz (ec Qef_w (ec Qej_w (ec Qew_w en))) func363 fun av k h=>by
 unfold Qex at h;split at h
 ·apply xab h;clear h;(repeat intro _);rename_i h;exact km h
 ·exact h.elim
def Qey:GM
 | [.agg u0],k=>un 16 (fun a0 a1 a2 a3 a4 a5 a6 a7 a8 a9 a10 a11 a12 a13 a14 a15 =>
  (1=1)∧(1≤16777216)∧(1=1)∧(0=0)∧(1=1)∧(xae [.pv (I 0)] [.pv (I 233)])∧call Qen [.agg [a0,a1,a2,a3,a4,a5,a6,a7,a8,a9,a10,a11,a12,a13,a14,a15]] fun o0 =>
  xbd 1 (.list 1 [[(I 233)]]) (atP o0 0) fun r1 =>
  call Qei [.one r1] fun o2 =>
  rt [.sc] [(atP o2 0)] k) u0
 | _,_=>False
theorem Qey_w:EO ⟨[413],Qey⟩:=oFz (ec Qen_w (ec Qei_w en)) func413 fun av k h=>by
 unfold Qey at h;split at h
 ·apply xab h;clear h;(repeat intro _);rename_i h;exact km h
 ·exact h.elim
def Qez:GM
 | [.agg u0,.agg u1],k=>un 16 (fun a0 a1 a2 a3 a4 a5 a6 a7 a8 a9 a10 a11 a12 a13 a14 a15=>un 16 (fun a16 a17 a18 a19 a20 a21 a22 a23 a24 a25 a26 a27 a28 a29 a30 a31 =>
  xac .eql a16 a0 fun r0 =>
  xad r0
   (xac .add a1 (I 1) fun r1 =>
   xac .eql a17 r1 fun r2 =>
   xad r2
    (call Qey [.agg [a0,a1,a2,a3,a4,a5,a6,a7,a8,a9,a10,a11,a12,a13,a14,a15]] fun o3 =>
    xac .eql a23 (atP o3 0) fun r4 =>
    xad r4
     (xac .geq a19 a3 fun r5 =>
     rt [.sc] [r5] k)
     (rt [.sc] [(.bool false)] k))
    (rt [.sc] [(.bool false)] k))
   (rt [.sc] [(.bool false)] k)) u1) u0
 | _,_=>False
theorem Qez_w:EO ⟨[379],Qez⟩:=oFz (ec Qey_w en) func379 fun av k h=>by
 unfold Qez at h;split at h
 ·apply xab h;clear h;(repeat intro _);rename_i h;apply xab h;clear h;(repeat intro _);rename_i h;exact km h
 ·exact h.elim
def Qfa:GM
 | [.agg u0,.agg u1],k=>un 16 (fun a0 a1 a2 a3 a4 a5 a6 a7 a8 a9 a10 a11 a12 a13 a14 a15=>un 17 (fun a16 a17 a18 a19 a20 a21 a22 a23 a24 a25 a26 a27 a28 a29 a30 a31 a32 =>
  xad a15
   (rt [.sc] [(I 4)] k)
   (xad a31
    (rt [.sc] [(I 6)] k)
    (call Qew [.agg [a16,a17,a18,a19,a20,a21,a22,a23,a24,a25,a26,a27,a28,a29,a30,a31,a32],.agg [a8,a9]] fun o0 =>
    unP .not (atP o0 0) fun r1 =>
    xad r1
     (rt [.sc] [(I 7)] k)
     (rt [.sc] [(I 1)] k)))) u1) u0
 | _,_=>False
theorem Qfa_w:EO ⟨[380],Qfa⟩:=oFz (ec Qew_w en) func380 fun av k h=>by
 unfold Qfa at h;split at h
 ·apply xab h;clear h;(repeat intro _);rename_i h;apply xab h;clear h;(repeat intro _);rename_i h;exact km h
 ·exact h.elim
def Qfb_r0 (v:List PV) (K:List PV→Prop) (x0k:Prop) (x1k:Cur 5):Prop :=
 un 5 (fun v0 v1 v2 v3 v4 =>
  xac .lss v4 v3 fun r0 =>
  xad r0
   (xaj 1 v0 v4 fun c1 =>
   xaj 1 v1 v4 fun c2 =>
   xac .neq (atP c1 0) (atP c2 0) fun r3 =>
   xad r3
    (x0k)
    (xac .add v4 (I 1) fun r4 =>
    K [v0,v1,v2,v3,r4]))
   (x1k v0 v1 v2 v3 v4)) v
def Qfb:GM
 | [.one a0,.one a1],k =>
  xaH a0 fun r0 =>
  xaH a1 fun r1 =>
  xac .neq r0 r1 fun r2 =>
  xad r2
   (rt [.sc] [(.bool false)] k)
   (xaH a0 fun r3 =>
   lp (fun L w=>Qfb_r0 w L
    (rt [.sc] [(.bool false)] k)
    (fun q5 q6 q7 q8 q9=>rt [.sc] [(.bool true)] k)) [a0,a1,(.bool false),r3,(I 0)])
 | _,_=>False
def Qfb_l:List LE:=[⟨none,0,⟨[(0,.one zB),(1,.one zB),(4,.one zB),(12,.one zB),(13,.one zB)],[],[],0,26,[]⟩,fun K k v=>Qfb_r0 v K (k .ret ⟨[(4,.one (.kb false))],[],[],0,26,[]⟩) (fun x0 x1 x2 x3 x4=>k (.exit 0) ⟨[(0,.one (.pv x0)),(1,.one (.pv x1)),(4,.one (.pv x2)),(12,.one (.pv x3)),(13,.one (.pv x4))],[],[],0,26,[]⟩)⟩]
theorem Qfb_s:xaC [] TT (kk [0,1,4,12,13]) Qfb_l f420 Qfb_l:=⟨fun v K k h=>by
 apply xab h;exact fun v0 v1 v2 v3 v4 h=>km h
 ,trivial⟩
theorem Qfb_w:EO ⟨[420],Qfb⟩:=oN en (keep:=(kk [0,1,4,12,13])) (l:=Qfb_l) func420 Qfb_s fun av k h=>by
 unfold Qfb at h;split at h
 ·exact km h
 ·exact h.elim
def Qfc:GM
 | [.agg u0,.agg u1],k=>un 2 (fun a0 a1=>un 2 (fun a2 a3 =>
  call Qfb [.one a0,.one a2] fun o0 =>
  xad (atP o0 0)
   (xac .eql a1 a3 fun r1 =>
   rt [.sc] [r1] k)
   (rt [.sc] [(.bool false)] k)) u1) u0
 | _,_=>False
theorem Qfc_w:EO ⟨[414],Qfc⟩:=oFz (ec Qfb_w en) func414 fun av k h=>by
 unfold Qfc at h;split at h
 ·apply xab h;clear h;intro a0 a1 h;apply xab h;clear h;intro a2 a3 h;exact km h
 ·exact h.elim
def Qfd:GM
 | [.agg u0,.agg u1],k=>un 16 (fun a0 a1 a2 a3 a4 a5 a6 a7 a8 a9 a10 a11 a12 a13 a14 a15=>un 16 (fun a16 a17 a18 a19 a20 a21 a22 a23 a24 a25 a26 a27 a28 a29 a30 a31 =>
  xac .eql a5 a21 fun r0 =>
  xad r0
   (xac .eql a6 a22 fun r1 =>
   rt [.sc] [r1] k)
   (rt [.sc] [(.bool false)] k)) u1) u0
 | _,_=>False
theorem Qfd_w:EO ⟨[415],Qfd⟩:=oFz en func415 fun av k h=>by
 unfold Qfd at h;split at h
 ·apply xab h;clear h;(repeat intro _);rename_i h;apply xab h;clear h;(repeat intro _);rename_i h;exact km h
 ·exact h.elim
def Qfe:GM
 | [.agg u0,.agg u1],k=>un 16 (fun a0 a1 a2 a3 a4 a5 a6 a7 a8 a9 a10 a11 a12 a13 a14 a15=>un 17 (fun a16 a17 a18 a19 a20 a21 a22 a23 a24 a25 a26 a27 a28 a29 a30 a31 a32 =>
  xad a15
   (rt [.sc] [(I 4)] k)
   (call Qec [.agg [a10,a11]] fun o0 =>
   xad (atP o0 0)
    (rt [.sc] [(I 5)] k)
    (xac .add a4 a12 fun r1 =>
    xac .lss a19 r1 fun r2 =>
    xad r2
     (rt [.sc] [(I 5)] k)
     (xad a31
      (rt [.sc] [(I 6)] k)
      (call Qfc [.agg [a24,a25],.agg [a10,a11]] fun o3 =>
      unP .not (atP o3 0) fun r4 =>
      xad r4
       (rt [.sc] [(I 6)] k)
       (call Qfd [.agg [a16,a17,a18,a19,a20,a21,a22,a23,a24,a25,a26,a27,a28,a29,a30,a31],.agg [a0,a1,a2,a3,a4,a5,a6,a7,a8,a9,a10,a11,a12,a13,a14,a15]] fun o5 =>
       unP .not (atP o5 0) fun r6 =>
       xad r6
        (rt [.sc] [(I 6)] k)
        (call Qew [.agg [a16,a17,a18,a19,a20,a21,a22,a23,a24,a25,a26,a27,a28,a29,a30,a31,a32],.agg [a10,a11]] fun o7 =>
        unP .not (atP o7 0) fun r8 =>
        xad r8
         (rt [.sc] [(I 7)] k)
         (rt [.sc] [(I 1)] k)))))))) u1) u0
 | _,_=>False
theorem Qfe_w:EO ⟨[381],Qfe⟩:=oFz (ec Qec_w (ec Qfc_w (ec Qfd_w (ec Qew_w en)))) func381 fun av k h=>by
 unfold Qfe at h;split at h
 ·apply xab h;clear h;(repeat intro _);rename_i h;apply xab h;clear h;(repeat intro _);rename_i h;exact km h
 ·exact h.elim
def Qff:GM
 | [.agg u0,.agg u1],k=>un 16 (fun a0 a1 a2 a3 a4 a5 a6 a7 a8 a9 a10 a11 a12 a13 a14 a15=>un 17 (fun a16 a17 a18 a19 a20 a21 a22 a23 a24 a25 a26 a27 a28 a29 a30 a31 a32 =>
  call Qfd [.agg [a16,a17,a18,a19,a20,a21,a22,a23,a24,a25,a26,a27,a28,a29,a30,a31],.agg [a0,a1,a2,a3,a4,a5,a6,a7,a8,a9,a10,a11,a12,a13,a14,a15]] fun o0 =>
  xad (atP o0 0)
   (call Qfc [.agg [a29,a30],.agg [a13,a14]] fun o1 =>
   xad (atP o1 0)
    (call Qfc [.agg [a26,a27],.agg [a10,a11]] fun o2 =>
    xad (atP o2 0)
     (xac .eql a28 a12 fun r3 =>
     call Qec [.agg [a13,a14]] fun o4 =>
     xad (atP o4 0)
      (rt [.sc] [(I 5)] k)
      (xen .eql a31 a15 fun r5 =>
      xad r5
       (rt [.sc] [(I 6)] k)
       (unP .not r3 fun r6 =>
       xad r6
        (rt [.sc] [(I 6)] k)
        (xad a31
         (call Qfc [.agg [a24,a25],.agg [a8,a9]] fun o7 =>
         unP .not (atP o7 0) fun r8 =>
         xad r8
          (rt [.sc] [(I 6)] k)
          (call Qew [.agg [a16,a17,a18,a19,a20,a21,a22,a23,a24,a25,a26,a27,a28,a29,a30,a31,a32],.agg [a13,a14]] fun o9 =>
          unP .not (atP o9 0) fun r10 =>
          xad r10
           (rt [.sc] [(I 7)] k)
           (rt [.sc] [(I 1)] k)))
         (call Qew [.agg [a16,a17,a18,a19,a20,a21,a22,a23,a24,a25,a26,a27,a28,a29,a30,a31,a32],.agg [a13,a14]] fun o11 =>
         unP .not (atP o11 0) fun r12 =>
         xad r12
          (rt [.sc] [(I 7)] k)
          (rt [.sc] [(I 1)] k))))))
     (call Qec [.agg [a13,a14]] fun o13 =>
     xad (atP o13 0)
      (rt [.sc] [(I 5)] k)
      (xen .eql a31 a15 fun r14 =>
      xad r14
       (rt [.sc] [(I 6)] k)
       (rt [.sc] [(I 6)] k))))
    (call Qec [.agg [a13,a14]] fun o15 =>
    xad (atP o15 0)
     (rt [.sc] [(I 5)] k)
     (xen .eql a31 a15 fun r16 =>
     xad r16
      (rt [.sc] [(I 6)] k)
      (rt [.sc] [(I 6)] k))))
   (call Qec [.agg [a13,a14]] fun o17 =>
   xad (atP o17 0)
    (rt [.sc] [(I 5)] k)
    (xen .eql a31 a15 fun r18 =>
    xad r18
     (rt [.sc] [(I 6)] k)
     (rt [.sc] [(I 6)] k)))) u1) u0
 | _,_=>False
theorem Qff_w:EO ⟨[382],Qff⟩:=oFz (ec Qfd_w (ec Qfc_w (ec Qec_w (ec Qew_w en)))) func382 fun av k h=>by
 unfold Qff at h;split at h
 ·apply xab h;clear h;(repeat intro _);rename_i h;apply xab h;clear h;(repeat intro _);rename_i h;exact km h
 ·exact h.elim
def Qfg:GM
 | [.agg u0,.agg u1],k=>un 16 (fun a0 a1 a2 a3 a4 a5 a6 a7 a8 a9 a10 a11 a12 a13 a14 a15=>un 17 (fun a16 a17 a18 a19 a20 a21 a22 a23 a24 a25 a26 a27 a28 a29 a30 a31 a32 =>
  call Qef [.agg [a0,a1,a2,a3,a4,a5,a6,a7,a8,a9,a10,a11,a12,a13,a14,a15]] fun o0 =>
  unP .not (atP o0 0) fun r1 =>
  xad r1
   (rt [.sc] [(I 2)] k)
   (call Qef [.agg [a16,a17,a18,a19,a20,a21,a22,a23,a24,a25,a26,a27,a28,a29,a30,a31]] fun o2 =>
   unP .not (atP o2 0) fun r3 =>
   xad r3
    (rt [.sc] [(I 2)] k)
    (call Qez [.agg [a0,a1,a2,a3,a4,a5,a6,a7,a8,a9,a10,a11,a12,a13,a14,a15],.agg [a16,a17,a18,a19,a20,a21,a22,a23,a24,a25,a26,a27,a28,a29,a30,a31]] fun o4 =>
    unP .not (atP o4 0) fun r5 =>
    xad r5
     (rt [.sc] [(I 3)] k)
     (xac .eql a18 (I 1) fun r6 =>
     xad r6
      (call Qfa [.agg [a0,a1,a2,a3,a4,a5,a6,a7,a8,a9,a10,a11,a12,a13,a14,a15],.agg [a16,a17,a18,a19,a20,a21,a22,a23,a24,a25,a26,a27,a28,a29,a30,a31,a32]] fun o7 =>
      rt [.sc] [(atP o7 0)] k)
      (xac .eql a18 (I 2) fun r8 =>
      xad r8
       (call Qfe [.agg [a0,a1,a2,a3,a4,a5,a6,a7,a8,a9,a10,a11,a12,a13,a14,a15],.agg [a16,a17,a18,a19,a20,a21,a22,a23,a24,a25,a26,a27,a28,a29,a30,a31,a32]] fun o9 =>
       rt [.sc] [(atP o9 0)] k)
       (call Qff [.agg [a0,a1,a2,a3,a4,a5,a6,a7,a8,a9,a10,a11,a12,a13,a14,a15],.agg [a16,a17,a18,a19,a20,a21,a22,a23,a24,a25,a26,a27,a28,a29,a30,a31,a32]] fun o10 =>
       rt [.sc] [(atP o10 0)] k)))))) u1) u0
 | _,_=>False
theorem Qfg_w:EO ⟨[331],Qfg⟩:=oFz (ec Qef_w (ec Qez_w (ec Qfa_w (ec Qfe_w (ec Qff_w en))))) func331 fun av k h=>by
 unfold Qfg at h;split at h
 ·apply xab h;clear h;(repeat intro _);rename_i h;apply xab h;clear h;(repeat intro _);rename_i h;exact km h
 ·exact h.elim
def Qfh:GM
 | [.agg u0,.agg u1],k=>un 16 (fun a0 a1 a2 a3 a4 a5 a6 a7 a8 a9 a10 a11 a12 a13 a14 a15=>un 17 (fun a16 a17 a18 a19 a20 a21 a22 a23 a24 a25 a26 a27 a28 a29 a30 a31 a32 =>
  call Qfg [.agg [a0,a1,a2,a3,a4,a5,a6,a7,a8,a9,a10,a11,a12,a13,a14,a15],.agg [a16,a17,a18,a19,a20,a21,a22,a23,a24,a25,a26,a27,a28,a29,a30,a31,a32]] fun o0 =>
  xac .eql (atP o0 0) (I 1) fun r1 =>
  rt [.sc] [r1] k) u1) u0
 | _,_=>False
theorem Qfh_w:EO ⟨[364],Qfh⟩:=oFz (ec Qfg_w en) func364 fun av k h=>by
 unfold Qfh at h;split at h
 ·apply xab h;clear h;(repeat intro _);rename_i h;apply xab h;clear h;(repeat intro _);rename_i h;exact km h
 ·exact h.elim
def Qfi_r0 (v:List PV) (K:List PV→Prop) (x0k:PV→Prop) (x1k:PV→Prop) (x2k:Cur 5):Prop :=
 un 5 (fun v0 v1 v2 v3 v4 =>
  xac .lss v4 v3 fun r0 =>
  xad r0
   (xaj 17 v2 v4 fun c1 =>
   xac .eql v4 (I 0) fun r2 =>
   xad r2
    (call Qex [.agg [(atP c1 0),(atP c1 1),(atP c1 2),(atP c1 3),(atP c1 4),(atP c1 5),(atP c1 6),(atP c1 7),(atP c1 8),(atP c1 9),(atP c1 10),(atP c1 11),(atP c1 12),(atP c1 13),(atP c1 14),(atP c1 15),(atP c1 16)]] fun o3 =>
    unP .not (atP o3 0) fun r4 =>
    xad r4
     (x0k v4)
     (xac .gtr v4 (I 0) fun r5 =>
     xad r5
      (xac .sub v4 (I 1) fun r6 =>
      xaj 17 v0 r6 fun c7 =>
      call Qfh [.agg [(atP c7 0),(atP c7 1),(atP c7 2),(atP c7 3),(atP c7 4),(atP c7 5),(atP c7 6),(atP c7 7),(atP c7 8),(atP c7 9),(atP c7 10),(atP c7 11),(atP c7 12),(atP c7 13),(atP c7 14),(atP c7 15)],.agg [(atP c1 0),(atP c1 1),(atP c1 2),(atP c1 3),(atP c1 4),(atP c1 5),(atP c1 6),(atP c1 7),(atP c1 8),(atP c1 9),(atP c1 10),(atP c1 11),(atP c1 12),(atP c1 13),(atP c1 14),(atP c1 15),(atP c1 16)]] fun o8 =>
      unP .not (atP o8 0) fun r9 =>
      xad r9
       (x1k v4)
       (xac .add v4 (I 1) fun r10 =>
       K [v0,v1,v2,v3,r10]))
      (xac .add v4 (I 1) fun r11 =>
      K [v0,v1,v2,v3,r11])))
    (xac .gtr v4 (I 0) fun r12 =>
    xad r12
     (xac .sub v4 (I 1) fun r13 =>
     xaj 17 v0 r13 fun c14 =>
     call Qfh [.agg [(atP c14 0),(atP c14 1),(atP c14 2),(atP c14 3),(atP c14 4),(atP c14 5),(atP c14 6),(atP c14 7),(atP c14 8),(atP c14 9),(atP c14 10),(atP c14 11),(atP c14 12),(atP c14 13),(atP c14 14),(atP c14 15)],.agg [(atP c1 0),(atP c1 1),(atP c1 2),(atP c1 3),(atP c1 4),(atP c1 5),(atP c1 6),(atP c1 7),(atP c1 8),(atP c1 9),(atP c1 10),(atP c1 11),(atP c1 12),(atP c1 13),(atP c1 14),(atP c1 15),(atP c1 16)]] fun o15 =>
     unP .not (atP o15 0) fun r16 =>
     xad r16
      (x0k v4)
      (xac .add v4 (I 1) fun r17 =>
      K [v0,v1,v2,v3,r17]))
     (xac .add v4 (I 1) fun r18 =>
     K [v0,v1,v2,v3,r18])))
   (x2k v0 v1 v2 v3 v4)) v
def Qfi:GM
 | [.one a0],k =>
  xaH a0 fun r0 =>
  lp (fun L w=>Qfi_r0 w L
   (fun q19=>rt [.sc] [q19] k)
   (fun q20=>rt [.sc] [q20] k)
   (fun q21 q22 q23 q24 q25=>rt [.sc] [(I (-1))] k)) [a0,(I 0),a0,r0,(I 0)]
 | _,_=>False
def Qfi_l:List LE:=[⟨none,0,⟨[(0,.one zB),(2,.one zB),(5,.one zB),(6,.one zB),(7,.one zB)],[],[],0,36,[]⟩,fun K k v=>Qfi_r0 v K (fun x0=>k .ret ⟨[(2,.one (.pv x0))],[],[],2,36,[]⟩) (fun x0=>k .ret ⟨[(2,.one (.pv x0))],[],[],3,36,[]⟩) (fun x0 x1 x2 x3 x4=>k (.exit 0) ⟨[(0,.one (.pv x0)),(2,.one (.pv x1)),(5,.one (.pv x2)),(6,.one (.pv x3)),(7,.one (.pv x4))],[],[],0,36,[]⟩)⟩]
theorem Qfi_s:xaC [⟨[363],Qex⟩,⟨[364],Qfh⟩] TT.nofl (kk [0,2,5,6,7,15,16,17,20,21,22,23,24,25,26,27,28,29,30,31,32,999999]) Qfi_l f318 Qfi_l:=⟨fun v K k h=>by
 apply xab h;exact fun v0 v1 v2 v3 v4 h=>km h
 ,trivial⟩
theorem Qfi_w:EO ⟨[318],Qfi⟩:=oF (ec Qex_w (ec Qfh_w en)) (keep:=(kk [0,2,5,6,7,15,16,17,20,21,22,23,24,25,26,27,28,29,30,31,32,999999])) (l:=Qfi_l) func318 Qfi_s fun av k h=>by
 unfold Qfi at h;split at h
 ·exact km h
 ·exact h.elim
def Qfj:GM
 | [.one a0],k =>
  xaH a0 fun r0 =>
  call Qdw [.one r0,.one (I 1),.one (I 12)] fun o1 =>
  xad (atP o1 0)
   (call Qfi [.one a0] fun o2 =>
   xac .lss (atP o2 0) (I 0) fun r3 =>
   rt [.sc] [r3] k)
   (rt [.sc] [(.bool false)] k)
 | _,_=>False
theorem Qfj_w:EO ⟨[267],Qfj⟩:=oFz (ec Qdw_w (ec Qfi_w en)) func267 fun av k h=>by
 unfold Qfj at h;split at h
 ·exact km h
 ·exact h.elim
def Qfk:GM
 | [.one a0],k =>
  xaH a0 fun r0 =>
  xac .sub r0 (I 1) fun r1 =>
  xaj 17 a0 r1 fun c2 =>
  rt g21 (s16 c2) k
 | _,_=>False
theorem Qfk_w:EO ⟨[261],Qfk⟩:=oFz en func261 fun av k h=>by
 unfold Qfk at h;split at h
 ·exact km h
 ·exact h.elim
def Qfl_r0 (v:List PV) (K:List PV→Prop) (x0k:Prop) (x1k:Cur 4):Prop :=
 un 4 (fun v0 v1 v2 v3 =>
  xac .lss v3 v2 fun r0 =>
  xad r0
   (xeI v0 v3 fun r1 =>
   xac .geq r1 (.int .u8 97) fun r2 =>
   xad r2
    (xac .leq r1 (.int .u8 122) fun r3 =>
    xad r3
     (xac .add v3 (I 1) fun r4 =>
     K [v0,v1,v2,r4])
     (xac .geq r1 (.int .u8 48) fun r5 =>
     xad r5
      (xac .leq r1 (.int .u8 57) fun r6 =>
      xad r6
       (xac .add v3 (I 1) fun r7 =>
       K [v0,v1,v2,r7])
       (xac .eql r1 (.int .u8 45) fun r8 =>
       xad r8
        (xac .gtr v3 (I 0) fun r9 =>
        xad r9
         (xlV v0 fun r10 =>
         xac .sub r10 (I 1) fun r11 =>
         xac .lss v3 r11 fun r12 =>
         unP .not r12 fun r13 =>
         xad r13
          (x0k)
          (xac .add v3 (I 1) fun r14 =>
          K [v0,v1,v2,r14]))
         (x0k))
        (x0k)))
      (xac .eql r1 (.int .u8 45) fun r15 =>
      xad r15
       (xac .gtr v3 (I 0) fun r16 =>
       xad r16
        (xlV v0 fun r17 =>
        xac .sub r17 (I 1) fun r18 =>
        xac .lss v3 r18 fun r19 =>
        unP .not r19 fun r20 =>
        xad r20
         (x0k)
         (xac .add v3 (I 1) fun r21 =>
         K [v0,v1,v2,r21]))
        (x0k))
       (x0k))))
    (xac .geq r1 (.int .u8 48) fun r22 =>
    xad r22
     (xac .leq r1 (.int .u8 57) fun r23 =>
     xad r23
      (xac .add v3 (I 1) fun r24 =>
      K [v0,v1,v2,r24])
      (xac .eql r1 (.int .u8 45) fun r25 =>
      xad r25
       (xac .gtr v3 (I 0) fun r26 =>
       xad r26
        (xlV v0 fun r27 =>
        xac .sub r27 (I 1) fun r28 =>
        xac .lss v3 r28 fun r29 =>
        unP .not r29 fun r30 =>
        xad r30
         (x0k)
         (xac .add v3 (I 1) fun r31 =>
         K [v0,v1,v2,r31]))
        (x0k))
       (x0k)))
     (xac .eql r1 (.int .u8 45) fun r32 =>
     xad r32
      (xac .gtr v3 (I 0) fun r33 =>
      xad r33
       (xlV v0 fun r34 =>
       xac .sub r34 (I 1) fun r35 =>
       xac .lss v3 r35 fun r36 =>
       unP .not r36 fun r37 =>
       xad r37
        (x0k)
        (xac .add v3 (I 1) fun r38 =>
        K [v0,v1,v2,r38]))
       (x0k))
      (x0k))))
   (x1k v0 v1 v2 v3)) v
def Qfl:GM
 | [.one a0],k =>
  xlV a0 fun r0 =>
  lp (fun L w=>Qfl_r0 w L
   (rt [.sc] [(.bool false)] k)
   (fun q39 q40 q41 q42=>xlV q39 fun r43 =>
    call Qdw [.one r43,.one (I 1),.one (I 8)] fun o44 =>
    rt [.sc] [(atP o44 0)] k)) [a0,(.bool false),r0,(I 0)]
 | _,_=>False
def Qfl_l:List LE:=[⟨none,0,⟨[(0,.one zB),(2,.one zB),(6,.one zB),(7,.one zB)],[],[],0,47,[]⟩,fun K k v=>Qfl_r0 v K (k .ret ⟨[(2,.one (.kb false))],[],[],0,47,[]⟩) (fun x0 x1 x2 x3=>k (.exit 0) ⟨[(0,.one (.pv x0)),(2,.one (.pv x1)),(6,.one (.pv x2)),(7,.one (.pv x3))],[],[],0,47,[]⟩)⟩]
theorem Qfl_s:xaC [⟨[266],Qdw⟩] TT.nofl (kk [0,2,6,7,16,17,20,21,22,23,24,25,28,29,30,31,32,33,34,35,36,37,38,39,40,999999]) Qfl_l f283 Qfl_l:=⟨fun v K k h=>by
 apply xab h;exact fun v0 v1 v2 v3 h=>km h
 ,trivial⟩
theorem Qfl_w:EO ⟨[283],Qfl⟩:=oF (ec Qdw_w en) (keep:=(kk [0,2,6,7,16,17,20,21,22,23,24,25,28,29,30,31,32,33,34,35,36,37,38,39,40,999999])) (l:=Qfl_l) func283 Qfl_s fun av k h=>by
 unfold Qfl at h;split at h
 ·exact km h
 ·exact h.elim
def Qfm:GM
 | [.one a0],k =>
  call Qfl [.one a0] fun o0 =>
  unP .not (atP o0 0) fun r1 =>
  rt [.sc] [r1] k
 | _,_=>False
theorem Qfm_w:EO ⟨[282],Qfm⟩:=oFz (ec Qfl_w en) func282 fun av k h=>by
 unfold Qfm at h;split at h
 ·exact km h
 ·exact h.elim
def Qfn_r0 (v:List PV) (K:List PV→Prop) (x0k:PV→Prop) (x1k:Cur 4):Prop :=
 un 4 (fun v0 v1 v2 v3 =>
  xac .lss v3 v2 fun r0 =>
  xad r0
   (xaj 1 v0 v3 fun c1 =>
   call Qfm [.one (atP c1 0)] fun o2 =>
   xad (atP o2 0)
    (x0k v3)
    (xac .add v3 (I 1) fun r3 =>
    K [v0,v1,v2,r3]))
   (x1k v0 v1 v2 v3)) v
def Qfn:GM
 | [.one a0,.fn 282 []],k =>
  xaH a0 fun r0 =>
  lp (fun L w=>Qfn_r0 w L
   (fun q4=>rt [.sc] [q4] k)
   (fun q5 q6 q7 q8=>rt [.sc] [(I (-1))] k)) [a0,(I 0),r0,(I 0)]
 | _,_=>False
def Qfn_l:List LE:=[⟨none,0,⟨[(0,.one zB),(1,.one (.fn 282 [])),(4,.one zB),(7,.one zB),(8,.one zB)],[],[],0,19,[]⟩,fun K k v=>Qfn_r0 v K (fun x0=>k .ret ⟨[(4,.one (.pv x0))],[],[],1,19,[]⟩) (fun x0 x1 x2 x3=>k (.exit 0) ⟨[(0,.one (.pv x0)),(1,.one (.fn 282 [])),(4,.one (.pv x1)),(7,.one (.pv x2)),(8,.one (.pv x3))],[],[],0,19,[]⟩)⟩]
theorem Qfn_s:xaC [⟨[282],Qfm⟩] TT (kk [0,1,4,7,8]) Qfn_l f333 Qfn_l:=⟨fun v K k h=>by
 apply xab h;exact fun v0 v1 v2 v3 h=>km h
 ,trivial⟩
theorem Qfn_w:EO ⟨[333,282],Qfn⟩:=oN (ec Qfm_w en) (keep:=(kk [0,1,4,7,8])) (l:=Qfn_l) func333 Qfn_s fun av k h=>by
 unfold Qfn at h;split at h
 ·exact km h
 ·exact h.elim
def Qfo:GM
 | [.one a0,.fn 282 []],k =>
  call Qfn [.one a0,.fn 282 []] fun o0 =>
  xac .geq (atP o0 0) (I 0) fun r1 =>
  rt [.sc] [r1] k
 | _,_=>False
theorem Qfo_w:EO ⟨[281,282],Qfo⟩:=oNz (ec Qfn_w en) func281 fun av k h=>by
 unfold Qfo at h;split at h
 ·exact km h
 ·exact h.elim
def Qfp:GM
 | [.one a0],k =>
  xaH a0 fun r0 =>
  call Qdw [.one r0,.one (I 1),.one (I 4)] fun o1 =>
  xad (atP o1 0)
   (call Qfo [.one a0,.fn 282 []] fun o2 =>
   unP .not (atP o2 0) fun r3 =>
   rt [.sc] [r3] k)
   (rt [.sc] [(.bool false)] k)
 | _,_=>False
theorem Qfp_w:EO ⟨[225],Qfp⟩:=oFz (ec Qdw_w (ec Qfo_w en)) func225 fun av k h=>by
 unfold Qfp at h;split at h
 ·exact km h
 ·exact h.elim
def Qfq:GM
 | [.agg u0],k=>un 4 (fun a0 a1 a2 a3 =>
  call Qfl [.one a0] fun o0 =>
  unP .not (atP o0 0) fun r1 =>
  xad r1
   (rt [.sc] [(.bool false)] k)
   (xac .eql a1 (I 1) fun r2 =>
   xad r2
    (call Qdw [.one a2,.one (I 0),.one (I 999999)] fun o3 =>
    xad (atP o3 0)
     (xaH a3 fun r4 =>
     xac .eql r4 (I 0) fun r5 =>
     rt [.sc] [r5] k)
     (rt [.sc] [(.bool false)] k))
    (xac .eql a1 (I 2) fun r6 =>
    xad r6
     (call Qdx [.one a2] fun o7 =>
     xad (atP o7 0)
      (xaH a3 fun r8 =>
      xac .eql r8 (I 0) fun r9 =>
      rt [.sc] [r9] k)
      (rt [.sc] [(.bool false)] k))
     (xac .eql a1 (I 3) fun r10 =>
     xad r10
      (call Qdx [.one a2] fun o11 =>
      xad (atP o11 0)
       (call Qfp [.one a3] fun o12 =>
       rt [.sc] [(atP o12 0)] k)
       (rt [.sc] [(.bool false)] k))
      (rt [.sc] [(.bool false)] k))))) u0
 | _,_=>False
theorem Qfq_w:EO ⟨[365],Qfq⟩:=oFz (ec Qfl_w (ec Qdw_w (ec Qdx_w (ec Qfp_w en)))) func365 fun av k h=>by
 unfold Qfq at h;split at h
 ·apply xab h;clear h;intro a0 a1 a2 a3 h;exact km h
 ·exact h.elim
def Qfs:GM
 | [.one a0,.one a1],k =>
  call Qlb [.one a0,.one a1] fun o0 =>
  rt [.sc] [(atP o0 0)] k
 | _,_=>False
theorem Qfs_w:EO ⟨[405],Qfs⟩:=oNz (ec Qlb_w en) func405 fun av k h=>by
 unfold Qfs at h;split at h
 ·exact km h
 ·exact h.elim
def Qft:GM
 | [.one a0,.one a1],k =>
  call Qfs [.one a0,.one a1] fun o0 =>
  rt [.sc] [(atP o0 0)] k
 | _,_=>False
theorem Qft_w:EO ⟨[366],Qft⟩:=oFz (ec Qfs_w en) func366 fun av k h=>by
 unfold Qft at h;split at h
 ·exact km h
 ·exact h.elim
def Qfu_r0 (v:List PV) (K:List PV→Prop) (x0k:Prop) (x1k:Prop) (x2k:Cur 5):Prop :=
 un 5 (fun v0 v1 v2 v3 v4 =>
  xac .lss v4 v3 fun r0 =>
  xad r0
   (xaj 4 v2 v4 fun c1 =>
   call Qfq [.agg [(atP c1 0),(atP c1 1),(atP c1 2),(atP c1 3)]] fun o2 =>
   unP .not (atP o2 0) fun r3 =>
   xad r3
    (x0k)
    (xac .gtr v4 (I 0) fun r4 =>
    xad r4
     (xac .sub v4 (I 1) fun r5 =>
     xaj 4 v0 r5 fun c6 =>
     call Qft [.one (atP c1 0),.one (atP c6 0)] fun o7 =>
     xac .leq (atP o7 0) (I 0) fun r8 =>
     xad r8
      (x1k)
      (xac .add v4 (I 1) fun r9 =>
      K [v0,v1,v2,v3,r9]))
     (xac .add v4 (I 1) fun r10 =>
     K [v0,v1,v2,v3,r10])))
   (x2k v0 v1 v2 v3 v4)) v
def Qfu:GM
 | [.one a0],k =>
  xaH a0 fun r0 =>
  lp (fun L w=>Qfu_r0 w L
   (rt [.sc] [(.bool false)] k)
   (rt [.sc] [(.bool false)] k)
   (fun q11 q12 q13 q14 q15=>xaH q11 fun r16 =>
    xac .leq r16 (I 12) fun r17 =>
    rt [.sc] [r17] k)) [a0,(.bool false),a0,r0,(I 0)]
 | _,_=>False
def Qfu_l:List LE:=[⟨none,0,⟨[(0,.one zB),(2,.one zB),(5,.one zB),(6,.one zB),(7,.one zB)],[],[],0,35,[]⟩,fun K k v=>Qfu_r0 v K (k .ret ⟨[(2,.one (.kb false))],[],[],2,35,[]⟩) (k .ret ⟨[(2,.one (.kb false))],[],[],3,35,[]⟩) (fun x0 x1 x2 x3 x4=>k (.exit 0) ⟨[(0,.one (.pv x0)),(2,.one (.pv x1)),(5,.one (.pv x2)),(6,.one (.pv x3)),(7,.one (.pv x4))],[],[],0,35,[]⟩)⟩]
theorem Qfu_s:xaC [⟨[365],Qfq⟩,⟨[366],Qft⟩] TT.nofl (kk [0,2,5,6,7,16,17,18,19,20,21,22,23,24,25,26,27,28,29,999999]) Qfu_l f319 Qfu_l:=⟨fun v K k h=>by
 apply xab h;exact fun v0 v1 v2 v3 v4 h=>km h
 ,trivial⟩
theorem Qfu_w:EO ⟨[319],Qfu⟩:=oF (ec Qfq_w (ec Qft_w en)) (keep:=(kk [0,2,5,6,7,16,17,18,19,20,21,22,23,24,25,26,27,28,29,999999])) (l:=Qfu_l) func319 Qfu_s fun av k h=>by
 unfold Qfu at h;split at h
 ·exact km h
 ·exact h.elim
def Qfv_r0 (v:List PV) (K:List PV→Prop) (x0k:Cur 5):Prop :=
 un 5 (fun v0 v1 v2 v3 v4 =>
  xac .lss v2 v1 fun r0 =>
  xad r0
   (xaj 1 v0 v2 fun c1 =>
   xmc .i64 (atP c1 0) fun r2 =>
   (1=1)∧(1≤16777216)∧(1=1)∧(0=0)∧(1=1)∧(xae [.pv (I 0)] [.pv r2])∧xbd 1 v4 (.list 1 [[r2]]) fun r3 =>
   xac .add v2 (I 1) fun r4 =>
   K [v0,v1,r4,v3,r3])
   (x0k v0 v1 v2 v3 v4)) v
def Qfv:GM
 | [.one a0],k =>
  xaH a0 fun r0 =>
  (1=1)∧(1≤16777216)∧(1=1)∧(0=0)∧(1=1)∧(xae [.pv (I 0)] [.pv r0])∧xaH a0 fun r1 =>
  lp (fun L w=>Qfv_r0 w L
   (fun q5 q6 q7 q8 q9=>rt [.own true 3 1] [q9] k)) [a0,r1,(I 0),(.list 1 []),(.list 1 [[r0]])]
 | _,_=>False
def Qfv_l:List LE:=[⟨none,0,⟨[(2,.one (.own 1)),(3,.one (.own 0)),(9,.one zB),(10,.one zB),(11,.one zB)],[],[(1,⟨.deep,3,1,(.bool false)⟩),(0,⟨.deep,3,1,(.bool false)⟩)],2,22,[]⟩,fun K k v=>Qfv_r0 v K (fun x0 x1 x2 x3 x4=>k (.exit 0) ⟨[(2,.one (.own 1)),(3,.one (.own 0)),(9,.one (.pv x0)),(10,.one (.pv x1)),(11,.one (.pv x2))],[],[(1,⟨.deep,3,1,x3⟩),(0,⟨.deep,3,1,x4⟩)],2,22,[]⟩)⟩]
theorem Qfv_s:xaC [] TT.nofl (kk [2,3,9,10,11,999999]) Qfv_l f307 Qfv_l:=⟨fun v K k h=>by
 apply xab h;exact fun v0 v1 v2 v3 v4 h=>km h
 ,trivial⟩
theorem Qfv_w:EO ⟨[307],Qfv⟩:=oF en (keep:=(kk [2,3,9,10,11,999999])) (l:=Qfv_l) func307 Qfv_s fun av k h=>by
 unfold Qfv at h;split at h
 ·exact km h
 ·exact h.elim
def Qfw:GM
 | [.one a0],k =>
  xlk a0 fun r0 =>
  call Qfv [.one r0] fun o1 =>
  rt [.own true 3 1] [(atP o1 0)] k
 | _,_=>False
theorem Qfw_w:EO ⟨[251],Qfw⟩:=oFz (ec Qfv_w en) func251 fun av k h=>by
 unfold Qfw at h;split at h
 ·exact km h
 ·exact h.elim
def Qfx_r0 (v:List PV) (K:List PV→Prop) (x0k:Cur 5):Prop :=
 un 5 (fun v0 v1 v2 v3 v4 =>
  xac .lss v2 v1 fun r0 =>
  xad r0
   (xaj 1 v0 v2 fun c1 =>
   call Qfw [.one (atP c1 0)] fun o2 =>
   xbd 1 v4 (atP o2 0) fun r3 =>
   xac .add v2 (I 1) fun r4 =>
   K [v0,v1,r4,v3,r3])
   (x0k v0 v1 v2 v3 v4)) v
def Qfx:GM
 | [.agg u0],k=>un 4 (fun a0 a1 a2 a3 =>
  call Qfw [.one a0] fun o0 =>
  xaH a3 fun r1 =>
  (3=3)∧(3≤16777216)∧(1=1)∧(0=0)∧(1=1)∧(xae [.pv (I 0)] [.pv a1])∧(1=1)∧(1=1)∧(xae [.pv (I 0)] [.pv a2])∧(2=2)∧(1=1)∧(xae [.pv (I 0)] [.pv r1])∧xbd 1 (atP o0 0) (.list 1 [[a1],[a2],[r1]]) fun r2 =>
  xaH a3 fun r3 =>
  lp (fun L w=>Qfx_r0 w L
   (fun q5 q6 q7 q8 q9=>rt [.own true 3 1] [q9] k)) [a3,r3,(I 0),(.list 1 []),r2]) u0
 | _,_=>False
def Qfx_l:List LE:=[⟨none,0,⟨[(2,.one (.own 4)),(3,.one (.own 3)),(19,.one zB),(20,.one zB),(21,.one zB)],[],[(4,⟨.deep,3,1,(.bool false)⟩),(3,⟨.deep,3,1,(.bool false)⟩)],5,31,[]⟩,fun K k v=>Qfx_r0 v K (fun x0 x1 x2 x3 x4=>k (.exit 0) ⟨[(2,.one (.own 4)),(3,.one (.own 3)),(19,.one (.pv x0)),(20,.one (.pv x1)),(21,.one (.pv x2))],[],[(4,⟨.deep,3,1,x3⟩),(3,⟨.deep,3,1,x4⟩)],5,31,[]⟩)⟩]
theorem Qfx_s:xaC [⟨[251],Qfw⟩] TT.nofl (kk [2,3,19,20,21,999999]) Qfx_l f423 Qfx_l:=⟨fun v K k h=>by
 apply xab h;exact fun v0 v1 v2 v3 v4 h=>km h
 ,trivial⟩
theorem Qfx_w:EO ⟨[423],Qfx⟩:=oF (ec Qfw_w en) (keep:=(kk [2,3,19,20,21,999999])) (l:=Qfx_l) func423 Qfx_s fun av k h=>by
 unfold Qfx at h;split at h
 ·apply xab h;clear h;intro a0 a1 a2 a3 h;exact km h
 ·exact h.elim
def Qfy:GM
 | [.agg u0],k=>un 4 (fun a0 a1 a2 a3 =>
  (1=1)∧(1≤16777216)∧(1=1)∧(0=0)∧(1=1)∧(xae [.pv (I 0)] [.pv (I 227)])∧call Qfx [.agg [a0,a1,a2,a3]] fun o0 =>
  xbd 1 (.list 1 [[(I 227)]]) (atP o0 0) fun r1 =>
  call Qei [.one r1] fun o2 =>
  rt [.sc] [(atP o2 0)] k) u0
 | _,_=>False
theorem Qfy_w:EO ⟨[393],Qfy⟩:=oFz (ec Qfx_w (ec Qei_w en)) func393 fun av k h=>by
 unfold Qfy at h;split at h
 ·apply xab h;clear h;intro a0 a1 a2 a3 h;exact km h
 ·exact h.elim
def Qfz_r0 (v:List PV) (K:List PV→Prop) (x0k:Cur 5):Prop :=
 un 5 (fun v0 v1 v2 v3 v4 =>
  xac .lss v2 v1 fun r0 =>
  xad r0
   (xaj 4 v0 v2 fun c1 =>
   call Qfy [.agg [(atP c1 0),(atP c1 1),(atP c1 2),(atP c1 3)]] fun o2 =>
   (1=1)∧(1≤16777216)∧(1=1)∧(0=0)∧(1=1)∧(xae [.pv (I 0)] [.pv (atP o2 0)])∧xbd 1 v4 (.list 1 [[(atP o2 0)]]) fun r3 =>
   xac .add v2 (I 1) fun r4 =>
   K [v0,v1,r4,v3,r3])
   (x0k v0 v1 v2 v3 v4)) v
def Qfz:GM
 | [.one a0],k =>
  (0=0)∧(0≤16777216)∧(1=1)∧xaH a0 fun r0 =>
  lp (fun L w=>Qfz_r0 w L
   (fun q5 q6 q7 q8 q9=>rt [.own true 3 1] [q9] k)) [a0,r0,(I 0),(.list 1 []),(.list 1 [])]
 | _,_=>False
def Qfz_l:List LE:=[⟨none,0,⟨[(2,.one (.own 1)),(3,.one (.own 0)),(7,.one zB),(8,.one zB),(9,.one zB)],[],[(1,⟨.deep,3,1,(.bool false)⟩),(0,⟨.deep,3,1,(.bool false)⟩)],2,20,[]⟩,fun K k v=>Qfz_r0 v K (fun x0 x1 x2 x3 x4=>k (.exit 0) ⟨[(2,.one (.own 1)),(3,.one (.own 0)),(7,.one (.pv x0)),(8,.one (.pv x1)),(9,.one (.pv x2))],[],[(1,⟨.deep,3,1,x3⟩),(0,⟨.deep,3,1,x4⟩)],2,20,[]⟩)⟩]
theorem Qfz_s:xaC [⟨[393],Qfy⟩] TT.nofl (kk [2,3,7,8,9,999999]) Qfz_l f360 Qfz_l:=⟨fun v K k h=>by
 apply xab h;exact fun v0 v1 v2 v3 v4 h=>km h
 ,trivial⟩
theorem Qfz_w:EO ⟨[360],Qfz⟩:=oF (ec Qfy_w en) (keep:=(kk [2,3,7,8,9,999999])) (l:=Qfz_l) func360 Qfz_s fun av k h=>by
 unfold Qfz at h;split at h
 ·exact km h
 ·exact h.elim
def Qga:GM
 | [.one a0],k =>
  call Qei [.one a0] fun o0 =>
  rt [.sc] [(atP o0 0)] k
 | _,_=>False
theorem Qga_w:EO ⟨[406],Qga⟩:=oFz (ec Qei_w en) func406 fun av k h=>by
 unfold Qga at h;split at h
 ·exact km h
 ·exact h.elim
def Qgb:GM
 | [.one a0,.one a1],k =>
  (3=3)∧(3≤16777216)∧(1=1)∧(0=0)∧(1=1)∧(xae [.pv (I 0)] [.pv (I 229)])∧(1=1)∧(1=1)∧(xae [.pv (I 0)] [.pv a0])∧(2=2)∧(1=1)∧(xae [.pv (I 0)] [.pv a1])∧call Qga [.one (.list 1 [[(I 229)],[a0],[a1]])] fun o0 =>
  rt [.sc] [(atP o0 0)] k
 | _,_=>False
theorem Qgb_w:EO ⟨[422],Qgb⟩:=oFz (ec Qga_w en) func422 fun av k h=>by
 unfold Qgb at h;split at h
 ·exact km h
 ·exact h.elim
def Qgc_r0 (v:List PV) (K:List PV→Prop) (x0k:Cur 4):Prop :=
 un 4 (fun v0 v1 v2 v3 =>
  xaH v0 fun r0 =>
  xac .lss v1 r0 fun r1 =>
  xad r1
   (xac .add v1 (I 1) fun r2 =>
   xaH v0 fun r3 =>
   xac .lss r2 r3 fun r4 =>
   xad r4
    (xaj 1 v0 v1 fun c5 =>
    xac .add v1 (I 1) fun r6 =>
    xaj 1 v0 r6 fun c7 =>
    call Qgb [.one (atP c5 0),.one (atP c7 0)] fun o8 =>
    (1=1)∧(1≤16777216)∧(1=1)∧(0=0)∧(1=1)∧(xae [.pv (I 0)] [.pv (atP o8 0)])∧xbd 1 v3 (.list 1 [[(atP o8 0)]]) fun r9 =>
    xac .add v1 (I 2) fun r10 =>
    K [v0,r10,v2,r9])
    (xaj 1 v0 v1 fun c11 =>
    (1=1)∧(1≤16777216)∧(1=1)∧(0=0)∧(1=1)∧(xae [.pv (I 0)] [.pv (atP c11 0)])∧xbd 1 v3 (.list 1 [[(atP c11 0)]]) fun r12 =>
    xac .add v1 (I 2) fun r13 =>
    K [v0,r13,v2,r12]))
   (x0k v0 v1 v2 v3)) v
def Qgc:GM
 | [.one a0],k =>
  (0=0)∧(0≤16777216)∧(1=1)∧lp (fun L w=>Qgc_r0 w L
   (fun q14 q15 q16 q17=>rt [.own true 3 1] [q17] k)) [a0,(I 0),(.list 1 []),(.list 1 [])]
 | _,_=>False
def Qgc_l:List LE:=[⟨none,0,⟨[(0,.one zB),(2,.one (.own 1)),(3,.one (.own 0)),(4,.one zB)],[],[(1,⟨.deep,3,1,(.bool false)⟩),(0,⟨.deep,3,1,(.bool false)⟩)],2,38,[]⟩,fun K k v=>Qgc_r0 v K (fun x0 x1 x2 x3=>k (.exit 0) ⟨[(0,.one (.pv x0)),(2,.one (.own 1)),(3,.one (.own 0)),(4,.one (.pv x1))],[],[(1,⟨.deep,3,1,x2⟩),(0,⟨.deep,3,1,x3⟩)],2,38,[]⟩)⟩]
theorem Qgc_s:xaC [⟨[422],Qgb⟩] TT.nofl (kk [0,2,3,4,999999]) Qgc_l f401 Qgc_l:=⟨fun v K k h=>by
 apply xab h;exact fun v0 v1 v2 v3 h=>km h
 ,trivial⟩
theorem Qgc_w:EO ⟨[401],Qgc⟩:=oF (ec Qgb_w en) (keep:=(kk [0,2,3,4,999999])) (l:=Qgc_l) func401 Qgc_s fun av k h=>by
 unfold Qgc at h;split at h
 ·exact km h
 ·exact h.elim
def Qgd_r0 (v:List PV) (K:List PV→Prop) (x0k:PV→PV→Prop):Prop :=
 un 2 (fun v0 v1 =>
  xaH v0 fun r0 =>
  xac .gtr r0 (I 1) fun r1 =>
  xad r1
   (call Qgc [.one v0] fun o2 =>
   K [(atP o2 0),v1])
   (x0k v0 v1)) v
def Qgd:GM
 | [.one a0],k =>
  xaH a0 fun r0 =>
  xac .eql r0 (I 0) fun r1 =>
  xad r1
   ((1=1)∧(1≤16777216)∧(1=1)∧(0=0)∧(1=1)∧(xae [.pv (I 0)] [.pv (I 229)])∧call Qga [.one (.list 1 [[(I 229)]])] fun o2 =>
   rt [.sc] [(atP o2 0)] k)
   (lp (fun L w=>Qgd_r0 w L
    (fun q3 q4=>xaj 1 q3 (I 0) fun c5 =>
     rt [.sc] [(atP c5 0)] k)) [a0,(I 0)])
 | _,_=>False
def Qgd_l:List LE:=[⟨none,0,⟨[(0,.one zB),(2,.one zB)],[],[],0,16,[]⟩,fun K k v=>Qgd_r0 v K (fun x0 x1=>k (.exit 0) ⟨[(0,.one (.pv x0)),(2,.one (.pv x1))],[],[],0,16,[]⟩)⟩]
theorem Qgd_s:xaC [⟨[406],Qga⟩,⟨[401],Qgc⟩] TT.nofl (kk [0,2,999999]) Qgd_l f368 Qgd_l:=⟨fun v K k h=>by
 apply xab h;exact fun v0 v1 h=>km h
 ,trivial⟩
theorem Qgd_w:EO ⟨[368],Qgd⟩:=oF (ec Qga_w (ec Qgc_w en)) (keep:=(kk [0,2,999999])) (l:=Qgd_l) func368 Qgd_s fun av k h=>by
 unfold Qgd at h;split at h
 ·exact km h
 ·exact h.elim
def Qge:GM
 | [.one a0,.one a1],k =>
  (3=3)∧(3≤16777216)∧(1=1)∧(0=0)∧(1=1)∧(xae [.pv (I 0)] [.pv (I 231)])∧(1=1)∧(1=1)∧(xae [.pv (I 0)] [.pv a0])∧(2=2)∧(1=1)∧(xae [.pv (I 0)] [.pv a1])∧call Qga [.one (.list 1 [[(I 231)],[a0],[a1]])] fun o0 =>
  rt [.sc] [(atP o0 0)] k
 | _,_=>False
theorem Qge_w:EO ⟨[367],Qge⟩:=oFz (ec Qga_w en) func367 fun av k h=>by
 unfold Qge at h;split at h
 ·exact km h
 ·exact h.elim
def Qgf:GM
 | [.one a0],k =>
  xaH a0 fun r0 =>
  call Qfz [.one a0] fun o1 =>
  call Qgd [.one (atP o1 0)] fun o2 =>
  call Qge [.one r0,.one (atP o2 0)] fun o3 =>
  rt [.sc] [(atP o3 0)] k
 | _,_=>False
theorem Qgf_w:EO ⟨[320],Qgf⟩:=oFz (ec Qfz_w (ec Qgd_w (ec Qge_w en))) func320 fun av k h=>by
 unfold Qgf at h;split at h
 ·exact km h
 ·exact h.elim
def Qgg:GM
 | [.one a0,.one a1],k =>
  call Qfu [.one a1] fun o0 =>
  xad (atP o0 0)
   (call Qgf [.one a1] fun o1 =>
   xac .eql (atP o1 0) a0 fun r2 =>
   rt [.sc] [r2] k)
   (rt [.sc] [(.bool false)] k)
 | _,_=>False
theorem Qgg_w:EO ⟨[268],Qgg⟩:=oFz (ec Qfu_w (ec Qgf_w en)) func268 fun av k h=>by
 unfold Qgg at h;split at h
 ·exact km h
 ·exact h.elim
def Qgh:GM
 | [.agg u0],k=>un 2 (fun a0 a1 =>
  call Qfj [.one a0] fun o0 =>
  unP .not (atP o0 0) fun r1 =>
  xad r1
   (rt [.sc] [(.bool false)] k)
   (call Qfk [.one a0] fun o2 =>
   xaH a1 fun r3 =>
   xac .eql (atP o2 5) r3 fun r4 =>
   xad r4
    (call Qgg [.one (atP o2 6),.one a1] fun o5 =>
    rt [.sc] [(atP o5 0)] k)
    (rt [.sc] [(.bool false)] k))) u0
 | _,_=>False
theorem Qgh_w:EO ⟨[210],Qgh⟩:=oFz (ec Qfj_w (ec Qfk_w (ec Qgg_w en))) func210 fun av k h=>by
 unfold Qgh at h;split at h
 ·apply xab h;clear h;intro a0 a1 h;exact km h
 ·exact h.elim
def Qgi:GM
 | [.agg u0],k=>un 2 (fun a0 a1 =>
  call Qgh [.agg [a0,a1]] fun o0 =>
  unP .not (atP o0 0) fun r1 =>
  xad r1
   (rt [.sc] [(I (-1))] k)
   (call Qfk [.one a0] fun o2 =>
   rt [.sc] [(atP o2 0)] k)) u0
 | _,_=>False
theorem Qgi_w:EO ⟨[201],Qgi⟩:=oFz (ec Qgh_w (ec Qfk_w en)) func201 fun av k h=>by
 unfold Qgi at h;split at h
 ·apply xab h;clear h;intro a0 a1 h;exact km h
 ·exact h.elim
def Qgj_r0 (v:List PV) (K:List PV→Prop) (x0k:Prop) (x1k:PV→PV→PV→PV→Prop):Prop :=
 un 4 (fun v0 v1 v2 v3 =>
  xaH v0 fun r0 =>
  xac .lss v3 r0 fun r1 =>
  xad r1
   (xaj 1 v0 v3 fun c2 =>
   xaj 1 v1 v3 fun c3 =>
   xac .neq (atP c2 0) (atP c3 0) fun r4 =>
   xad r4
    (x0k)
    (xac .add v3 (I 1) fun r5 =>
    K [v0,v1,v2,r5]))
   (x1k v0 v1 v2 v3)) v
def Qgj:GM
 | [.one a0,.one a1],k =>
  xaH a0 fun r0 =>
  xaH a1 fun r1 =>
  xac .neq r0 r1 fun r2 =>
  xad r2
   (rt [.sc] [(.bool false)] k)
   (lp (fun L w=>Qgj_r0 w L
    (rt [.sc] [(.bool false)] k)
    (fun q6 q7 q8 q9=>rt [.sc] [(.bool true)] k)) [a0,a1,(.bool false),(I 0)])
 | _,_=>False
def Qgj_l:List LE:=[⟨none,0,⟨[(0,.one zB),(1,.one zB),(4,.one zB),(5,.one zB)],[],[],0,26,[]⟩,fun K k v=>Qgj_r0 v K (k .ret ⟨[(4,.one (.kb false))],[],[],0,26,[]⟩) (fun x0 x1 x2 x3=>k (.exit 0) ⟨[(0,.one (.pv x0)),(1,.one (.pv x1)),(4,.one (.pv x2)),(5,.one (.pv x3))],[],[],0,26,[]⟩)⟩]
theorem Qgj_s:xaC [] TT.nofl (kk [0,1,4,5]) Qgj_l f93 Qgj_l:=⟨fun v K k h=>by
 apply xab h;exact fun v0 v1 v2 v3 h=>km h
 ,trivial⟩
theorem Qgj_w:EO ⟨[93],Qgj⟩:=oF en (keep:=(kk [0,1,4,5])) (l:=Qgj_l) func93 Qgj_s fun av k h=>by
 unfold Qgj at h;split at h
 ·exact km h
 ·exact h.elim
def Qgk:GM
 | [.agg u0,.agg u1],k=>un 2 (fun a0 a1=>un 2 (fun a2 a3 =>
  call Qgj [.one a0,.one a2] fun o0 =>
  unP .not (atP o0 0) fun r1 =>
  xad r1
   (rt [.sc] [(.bool false)] k)
   (xac .neq a1 a3 fun r2 =>
   xad r2
    (rt [.sc] [(.bool false)] k)
    (rt [.sc] [(.bool true)] k))) u1) u0
 | _,_=>False
theorem Qgk_w:EO ⟨[145],Qgk⟩:=oFz (ec Qgj_w en) func145 fun av k h=>by
 unfold Qgk at h;split at h
 ·apply xab h;clear h;intro a0 a1 h;apply xab h;clear h;intro a2 a3 h;exact km h
 ·exact h.elim
def Qgl:GM
 | [.agg u0,.agg u1],k=>un 16 (fun a0 a1 a2 a3 a4 a5 a6 a7 a8 a9 a10 a11 a12 a13 a14 a15=>un 16 (fun a16 a17 a18 a19 a20 a21 a22 a23 a24 a25 a26 a27 a28 a29 a30 a31 =>
  xac .neq a0 a16 fun r0 =>
  xad r0
   (rt [.sc] [(.bool false)] k)
   (xac .neq a1 a17 fun r1 =>
   xad r1
    (rt [.sc] [(.bool false)] k)
    (xac .neq a2 a18 fun r2 =>
    xad r2
     (rt [.sc] [(.bool false)] k)
     (xac .neq a3 a19 fun r3 =>
     xad r3
      (rt [.sc] [(.bool false)] k)
      (xac .neq a4 a20 fun r4 =>
      xad r4
       (rt [.sc] [(.bool false)] k)
       (xac .neq a5 a21 fun r5 =>
       xad r5
        (rt [.sc] [(.bool false)] k)
        (xac .neq a6 a22 fun r6 =>
        xad r6
         (rt [.sc] [(.bool false)] k)
         (xac .neq a7 a23 fun r7 =>
         xad r7
          (rt [.sc] [(.bool false)] k)
          (call Qgk [.agg [a8,a9],.agg [a24,a25]] fun o8 =>
          unP .not (atP o8 0) fun r9 =>
          xad r9
           (rt [.sc] [(.bool false)] k)
           (call Qgk [.agg [a10,a11],.agg [a26,a27]] fun o10 =>
           unP .not (atP o10 0) fun r11 =>
           xad r11
            (rt [.sc] [(.bool false)] k)
            (xac .neq a12 a28 fun r12 =>
            xad r12
             (rt [.sc] [(.bool false)] k)
             (call Qgk [.agg [a13,a14],.agg [a29,a30]] fun o13 =>
             unP .not (atP o13 0) fun r14 =>
             xad r14
              (rt [.sc] [(.bool false)] k)
              (xen .neq a15 a31 fun r15 =>
              xad r15
               (rt [.sc] [(.bool false)] k)
               (rt [.sc] [(.bool true)] k)))))))))))))) u1) u0
 | _,_=>False
theorem Qgl_w:EO ⟨[60],Qgl⟩:=oFz (ec Qgk_w en) func60 fun av k h=>by
 unfold Qgl at h;split at h
 ·apply xab h;clear h;(repeat intro _);rename_i h;apply xab h;clear h;(repeat intro _);rename_i h;exact km h
 ·exact h.elim
def Qgm:GM
 | [.agg u0,.agg u1],k=>un 2 (fun a0 a1=>un 2 (fun a2 a3 =>
  xac .neq a0 a2 fun r0 =>
  xad r0
   (rt [.sc] [(.bool false)] k)
   (xac .neq a1 a3 fun r1 =>
   xad r1
    (rt [.sc] [(.bool false)] k)
    (rt [.sc] [(.bool true)] k))) u1) u0
 | _,_=>False
theorem Qgm_w:EO ⟨[317],Qgm⟩:=oFz en func317 fun av k h=>by
 unfold Qgm at h;split at h
 ·apply xab h;clear h;intro a0 a1 h;apply xab h;clear h;intro a2 a3 h;exact km h
 ·exact h.elim
def Qgn_r0 (v:List PV) (K:List PV→Prop) (x0k:Prop) (x1k:PV→PV→PV→PV→Prop):Prop :=
 un 4 (fun v0 v1 v2 v3 =>
  xaH v0 fun r0 =>
  xac .lss v3 r0 fun r1 =>
  xad r1
   (xaj 2 v0 v3 fun c2 =>
   xaj 2 v1 v3 fun c3 =>
   call Qgm [.agg [(atP c2 0),(atP c2 1)],.agg [(atP c3 0),(atP c3 1)]] fun o4 =>
   unP .not (atP o4 0) fun r5 =>
   xad r5
    (x0k)
    (xac .add v3 (I 1) fun r6 =>
    K [v0,v1,v2,r6]))
   (x1k v0 v1 v2 v3)) v
def Qgn:GM
 | [.one a0,.one a1],k =>
  xaH a0 fun r0 =>
  xaH a1 fun r1 =>
  xac .neq r0 r1 fun r2 =>
  xad r2
   (rt [.sc] [(.bool false)] k)
   (lp (fun L w=>Qgn_r0 w L
    (rt [.sc] [(.bool false)] k)
    (fun q7 q8 q9 q10=>rt [.sc] [(.bool true)] k)) [a0,a1,(.bool false),(I 0)])
 | _,_=>False
def Qgn_l:List LE:=[⟨none,0,⟨[(0,.one zB),(1,.one zB),(4,.one zB),(5,.one zB)],[],[],0,27,[]⟩,fun K k v=>Qgn_r0 v K (k .ret ⟨[(4,.one (.kb false))],[],[],1,27,[]⟩) (fun x0 x1 x2 x3=>k (.exit 0) ⟨[(0,.one (.pv x0)),(1,.one (.pv x1)),(4,.one (.pv x2)),(5,.one (.pv x3))],[],[],0,27,[]⟩)⟩]
theorem Qgn_s:xaC [⟨[317],Qgm⟩] TT.nofl (kk [0,1,4,5]) Qgn_l f263 Qgn_l:=⟨fun v K k h=>by
 apply xab h;exact fun v0 v1 v2 v3 h=>km h
 ,trivial⟩
theorem Qgn_w:EO ⟨[263],Qgn⟩:=oF (ec Qgm_w en) (keep:=(kk [0,1,4,5])) (l:=Qgn_l) func263 Qgn_s fun av k h=>by
 unfold Qgn at h;split at h
 ·exact km h
 ·exact h.elim
def Qgo:GM
 | [.agg u0,.agg u1],k=>un 17 (fun a0 a1 a2 a3 a4 a5 a6 a7 a8 a9 a10 a11 a12 a13 a14 a15 a16=>un 17 (fun a17 a18 a19 a20 a21 a22 a23 a24 a25 a26 a27 a28 a29 a30 a31 a32 a33 =>
  call Qgl [.agg [a0,a1,a2,a3,a4,a5,a6,a7,a8,a9,a10,a11,a12,a13,a14,a15],.agg [a17,a18,a19,a20,a21,a22,a23,a24,a25,a26,a27,a28,a29,a30,a31,a32]] fun o0 =>
  unP .not (atP o0 0) fun r1 =>
  xad r1
   (rt [.sc] [(.bool false)] k)
   (call Qgn [.one a16,.one a33] fun o2 =>
   unP .not (atP o2 0) fun r3 =>
   xad r3
    (rt [.sc] [(.bool false)] k)
    (rt [.sc] [(.bool true)] k))) u1) u0
 | _,_=>False
theorem Qgo_w:EO ⟨[205],Qgo⟩:=oFz (ec Qgl_w (ec Qgn_w en)) func205 fun av k h=>by
 unfold Qgo at h;split at h
 ·apply xab h;clear h;(repeat intro _);rename_i h;apply xab h;clear h;(repeat intro _);rename_i h;exact km h
 ·exact h.elim
def Qgp_r0 (v:List PV) (K:List PV→Prop) (x0k:Prop) (x1k:PV→PV→PV→PV→Prop):Prop :=
 un 4 (fun v0 v1 v2 v3 =>
  xaH v0 fun r0 =>
  xac .lss v3 r0 fun r1 =>
  xad r1
   (xaj 17 v0 v3 fun c2 =>
   xaj 17 v1 v3 fun c3 =>
   call Qgo [.agg [(atP c2 0),(atP c2 1),(atP c2 2),(atP c2 3),(atP c2 4),(atP c2 5),(atP c2 6),(atP c2 7),(atP c2 8),(atP c2 9),(atP c2 10),(atP c2 11),(atP c2 12),(atP c2 13),(atP c2 14),(atP c2 15),(atP c2 16)],.agg [(atP c3 0),(atP c3 1),(atP c3 2),(atP c3 3),(atP c3 4),(atP c3 5),(atP c3 6),(atP c3 7),(atP c3 8),(atP c3 9),(atP c3 10),(atP c3 11),(atP c3 12),(atP c3 13),(atP c3 14),(atP c3 15),(atP c3 16)]] fun o4 =>
   unP .not (atP o4 0) fun r5 =>
   xad r5
    (x0k)
    (xac .add v3 (I 1) fun r6 =>
    K [v0,v1,v2,r6]))
   (x1k v0 v1 v2 v3)) v
def Qgp:GM
 | [.one a0,.one a1],k =>
  xaH a0 fun r0 =>
  xaH a1 fun r1 =>
  xac .neq r0 r1 fun r2 =>
  xad r2
   (rt [.sc] [(.bool false)] k)
   (lp (fun L w=>Qgp_r0 w L
    (rt [.sc] [(.bool false)] k)
    (fun q7 q8 q9 q10=>rt [.sc] [(.bool true)] k)) [a0,a1,(.bool false),(I 0)])
 | _,_=>False
def Qgp_l:List LE:=[⟨none,0,⟨[(0,.one zB),(1,.one zB),(4,.one zB),(5,.one zB)],[],[],0,27,[]⟩,fun K k v=>Qgp_r0 v K (k .ret ⟨[(4,.one (.kb false))],[],[],1,27,[]⟩) (fun x0 x1 x2 x3=>k (.exit 0) ⟨[(0,.one (.pv x0)),(1,.one (.pv x1)),(4,.one (.pv x2)),(5,.one (.pv x3))],[],[],0,27,[]⟩)⟩]
theorem Qgp_s:xaC [⟨[205],Qgo⟩] TT.nofl (kk [0,1,4,5]) Qgp_l f123 Qgp_l:=⟨fun v K k h=>by
 apply xab h;exact fun v0 v1 v2 v3 h=>km h
 ,trivial⟩
theorem Qgp_w:EO ⟨[123],Qgp⟩:=oF (ec Qgo_w en) (keep:=(kk [0,1,4,5])) (l:=Qgp_l) func123 Qgp_s fun av k h=>by
 unfold Qgp at h;split at h
 ·exact km h
 ·exact h.elim
def Qgq_r0 (v:List PV) (K:List PV→Prop) (x0k:Prop) (x1k:PV→PV→PV→PV→Prop):Prop :=
 un 4 (fun v0 v1 v2 v3 =>
  xaH v0 fun r0 =>
  xac .lss v3 r0 fun r1 =>
  xad r1
   (xaj 1 v0 v3 fun c2 =>
   xaj 1 v1 v3 fun c3 =>
   xac .neq (atP c2 0) (atP c3 0) fun r4 =>
   xad r4
    (x0k)
    (xac .add v3 (I 1) fun r5 =>
    K [v0,v1,v2,r5]))
   (x1k v0 v1 v2 v3)) v
def Qgq:GM
 | [.one a0,.one a1],k =>
  xaH a0 fun r0 =>
  xaH a1 fun r1 =>
  xac .neq r0 r1 fun r2 =>
  xad r2
   (rt [.sc] [(.bool false)] k)
   (lp (fun L w=>Qgq_r0 w L
    (rt [.sc] [(.bool false)] k)
    (fun q6 q7 q8 q9=>rt [.sc] [(.bool true)] k)) [a0,a1,(.bool false),(I 0)])
 | _,_=>False
def Qgq_l:List LE:=[⟨none,0,⟨[(0,.one zB),(1,.one zB),(4,.one zB),(5,.one zB)],[],[],0,26,[]⟩,fun K k v=>Qgq_r0 v K (k .ret ⟨[(4,.one (.kb false))],[],[],0,26,[]⟩) (fun x0 x1 x2 x3=>k (.exit 0) ⟨[(0,.one (.pv x0)),(1,.one (.pv x1)),(4,.one (.pv x2)),(5,.one (.pv x3))],[],[],0,26,[]⟩)⟩]
theorem Qgq_s:xaC [] TT.nofl (kk [0,1,4,5]) Qgq_l f22 Qgq_l:=⟨fun v K k h=>by
 apply xab h;exact fun v0 v1 v2 v3 h=>km h
 ,trivial⟩
theorem Qgq_w:EO ⟨[22],Qgq⟩:=oF en (keep:=(kk [0,1,4,5])) (l:=Qgq_l) func22 Qgq_s fun av k h=>by
 unfold Qgq at h;split at h
 ·exact km h
 ·exact h.elim
def Qgr:GM
 | [.agg u0,.agg u1],k=>un 4 (fun a0 a1 a2 a3=>un 4 (fun a4 a5 a6 a7 =>
  xac .neq a0 a4 fun r0 =>
  xad r0
   (rt [.sc] [(.bool false)] k)
   (xac .neq a1 a5 fun r1 =>
   xad r1
    (rt [.sc] [(.bool false)] k)
    (xac .neq a2 a6 fun r2 =>
    xad r2
     (rt [.sc] [(.bool false)] k)
     (call Qgq [.one a3,.one a7] fun o3 =>
     unP .not (atP o3 0) fun r4 =>
     xad r4
      (rt [.sc] [(.bool false)] k)
      (rt [.sc] [(.bool true)] k))))) u1) u0
 | _,_=>False
theorem Qgr_w:EO ⟨[92],Qgr⟩:=oFz (ec Qgq_w en) func92 fun av k h=>by
 unfold Qgr at h;split at h
 ·apply xab h;clear h;intro a0 a1 a2 a3 h;apply xab h;clear h;intro a4 a5 a6 a7 h;exact km h
 ·exact h.elim
def Qgs_r0 (v:List PV) (K:List PV→Prop) (x0k:Prop) (x1k:PV→PV→PV→PV→Prop):Prop :=
 un 4 (fun v0 v1 v2 v3 =>
  xaH v0 fun r0 =>
  xac .lss v3 r0 fun r1 =>
  xad r1
   (xaj 1 v0 v3 fun c2 =>
   xaj 1 v1 v3 fun c3 =>
   call Qgp [.one (atP c2 0),.one (atP c3 0)] fun o4 =>
   unP .not (atP o4 0) fun r5 =>
   xad r5
    (x0k)
    (xac .add v3 (I 1) fun r6 =>
    K [v0,v1,v2,r6]))
   (x1k v0 v1 v2 v3)) v
def Qgs:GM
 | [.one a0,.one a1],k =>
  xaH a0 fun r0 =>
  xaH a1 fun r1 =>
  xac .neq r0 r1 fun r2 =>
  xad r2
   (rt [.sc] [(.bool false)] k)
   (lp (fun L w=>Qgs_r0 w L
    (rt [.sc] [(.bool false)] k)
    (fun q7 q8 q9 q10=>rt [.sc] [(.bool true)] k)) [a0,a1,(.bool false),(I 0)])
 | _,_=>False
def Qgs_l:List LE:=[⟨none,0,⟨[(0,.one zB),(1,.one zB),(4,.one zB),(5,.one zB)],[],[],0,27,[]⟩,fun K k v=>Qgs_r0 v K (k .ret ⟨[(4,.one (.kb false))],[],[],1,27,[]⟩) (fun x0 x1 x2 x3=>k (.exit 0) ⟨[(0,.one (.pv x0)),(1,.one (.pv x1)),(4,.one (.pv x2)),(5,.one (.pv x3))],[],[],0,27,[]⟩)⟩]
theorem Qgs_s:xaC [⟨[123],Qgp⟩] TT.nofl (kk [0,1,4,5]) Qgs_l f94 Qgs_l:=⟨fun v K k h=>by
 apply xab h;exact fun v0 v1 v2 v3 h=>km h
 ,trivial⟩
theorem Qgs_w:EO ⟨[94],Qgs⟩:=oF (ec Qgp_w en) (keep:=(kk [0,1,4,5])) (l:=Qgs_l) func94 Qgs_s fun av k h=>by
 unfold Qgs at h;split at h
 ·exact km h
 ·exact h.elim
def Qgt:GM
 | [.agg u0,.agg u1],k=>un 51 (fun a0 a1 a2 a3 a4 a5 a6 a7 a8 a9 a10 a11 a12 a13 a14 a15 a16 a17 a18 a19 a20 a21 a22 a23 a24 a25 a26 a27 a28 a29 a30 a31 a32 a33 a34 a35 a36 a37 a38 a39 a40 a41 a42 a43 a44 a45 a46 a47 a48 a49 a50=>un 51 (fun a51 a52 a53 a54 a55 a56 a57 a58 a59 a60 a61 a62 a63 a64 a65 a66 a67 a68 a69 a70 a71 a72 a73 a74 a75 a76 a77 a78 a79 a80 a81 a82 a83 a84 a85 a86 a87 a88 a89 a90 a91 a92 a93 a94 a95 a96 a97 a98 a99 a100 a101 =>
  call Qgo [.agg [a0,a1,a2,a3,a4,a5,a6,a7,a8,a9,a10,a11,a12,a13,a14,a15,a16],.agg [a51,a52,a53,a54,a55,a56,a57,a58,a59,a60,a61,a62,a63,a64,a65,a66,a67]] fun o0 =>
  unP .not (atP o0 0) fun r1 =>
  xad r1
   (rt [.sc] [(.bool false)] k)
   (call Qgo [.agg [a17,a18,a19,a20,a21,a22,a23,a24,a25,a26,a27,a28,a29,a30,a31,a32,a33],.agg [a68,a69,a70,a71,a72,a73,a74,a75,a76,a77,a78,a79,a80,a81,a82,a83,a84]] fun o2 =>
   unP .not (atP o2 0) fun r3 =>
   xad r3
    (rt [.sc] [(.bool false)] k)
    (call Qgo [.agg [a34,a35,a36,a37,a38,a39,a40,a41,a42,a43,a44,a45,a46,a47,a48,a49,a50],.agg [a85,a86,a87,a88,a89,a90,a91,a92,a93,a94,a95,a96,a97,a98,a99,a100,a101]] fun o4 =>
    unP .not (atP o4 0) fun r5 =>
    xad r5
     (rt [.sc] [(.bool false)] k)
     (rt [.sc] [(.bool true)] k)))) u1) u0
 | _,_=>False
theorem Qgt_w:EO ⟨[181],Qgt⟩:=oFz (ec Qgo_w en) func181 fun av k h=>by
 unfold Qgt at h;split at h
 ·apply xab h;clear h;(repeat intro _);rename_i h;apply xab h;clear h;(repeat intro _);rename_i h;exact km h
 ·exact h.elim
def Qgu_r0 (v:List PV) (K:List PV→Prop) (x0k:Prop) (x1k:PV→PV→PV→PV→Prop):Prop :=
 un 4 (fun v0 v1 v2 v3 =>
  xaH v0 fun r0 =>
  xac .lss v3 r0 fun r1 =>
  xad r1
   (xaj 51 v0 v3 fun c2 =>
   xaj 51 v1 v3 fun c3 =>
   call Qgt [.agg [(atP c2 0),(atP c2 1),(atP c2 2),(atP c2 3),(atP c2 4),(atP c2 5),(atP c2 6),(atP c2 7),(atP c2 8),(atP c2 9),(atP c2 10),(atP c2 11),(atP c2 12),(atP c2 13),(atP c2 14),(atP c2 15),(atP c2 16),(atP c2 17),(atP c2 18),(atP c2 19),(atP c2 20),(atP c2 21),(atP c2 22),(atP c2 23),(atP c2 24),(atP c2 25),(atP c2 26),(atP c2 27),(atP c2 28),(atP c2 29),(atP c2 30),(atP c2 31),(atP c2 32),(atP c2 33),(atP c2 34),(atP c2 35),(atP c2 36),(atP c2 37),(atP c2 38),(atP c2 39),(atP c2 40),(atP c2 41),(atP c2 42),(atP c2 43),(atP c2 44),(atP c2 45),(atP c2 46),(atP c2 47),(atP c2 48),(atP c2 49),(atP c2 50)],.agg [(atP c3 0),(atP c3 1),(atP c3 2),(atP c3 3),(atP c3 4),(atP c3 5),(atP c3 6),(atP c3 7),(atP c3 8),(atP c3 9),(atP c3 10),(atP c3 11),(atP c3 12),(atP c3 13),(atP c3 14),(atP c3 15),(atP c3 16),(atP c3 17),(atP c3 18),(atP c3 19),(atP c3 20),(atP c3 21),(atP c3 22),(atP c3 23),(atP c3 24),(atP c3 25),(atP c3 26),(atP c3 27),(atP c3 28),(atP c3 29),(atP c3 30),(atP c3 31),(atP c3 32),(atP c3 33),(atP c3 34),(atP c3 35),(atP c3 36),(atP c3 37),(atP c3 38),(atP c3 39),(atP c3 40),(atP c3 41),(atP c3 42),(atP c3 43),(atP c3 44),(atP c3 45),(atP c3 46),(atP c3 47),(atP c3 48),(atP c3 49),(atP c3 50)]] fun o4 =>
   unP .not (atP o4 0) fun r5 =>
   xad r5
    (x0k)
    (xac .add v3 (I 1) fun r6 =>
    K [v0,v1,v2,r6]))
   (x1k v0 v1 v2 v3)) v
def Qgu:GM
 | [.one a0,.one a1],k =>
  xaH a0 fun r0 =>
  xaH a1 fun r1 =>
  xac .neq r0 r1 fun r2 =>
  xad r2
   (rt [.sc] [(.bool false)] k)
   (lp (fun L w=>Qgu_r0 w L
    (rt [.sc] [(.bool false)] k)
    (fun q7 q8 q9 q10=>rt [.sc] [(.bool true)] k)) [a0,a1,(.bool false),(I 0)])
 | _,_=>False
def Qgu_l:List LE:=[⟨none,0,⟨[(0,.one zB),(1,.one zB),(4,.one zB),(5,.one zB)],[],[],0,27,[]⟩,fun K k v=>Qgu_r0 v K (k .ret ⟨[(4,.one (.kb false))],[],[],1,27,[]⟩) (fun x0 x1 x2 x3=>k (.exit 0) ⟨[(0,.one (.pv x0)),(1,.one (.pv x1)),(4,.one (.pv x2)),(5,.one (.pv x3))],[],[],0,27,[]⟩)⟩]
theorem Qgu_s:xaC [⟨[181],Qgt⟩] TT.nofl (kk [0,1,4,5]) Qgu_l f95 Qgu_l:=⟨fun v K k h=>by
 apply xab h;exact fun v0 v1 v2 v3 h=>km h
 ,trivial⟩
theorem Qgu_w:EO ⟨[95],Qgu⟩:=oF (ec Qgt_w en) (keep:=(kk [0,1,4,5])) (l:=Qgu_l) func95 Qgu_s fun av k h=>by
 unfold Qgu at h;split at h
 ·exact km h
 ·exact h.elim
def Qgv:GM
 | [.agg u0,.agg u1],k=>un 2 (fun a0 a1=>un 2 (fun a2 a3 =>
  call Qgs [.one a0,.one a2] fun o0 =>
  unP .not (atP o0 0) fun r1 =>
  xad r1
   (rt [.sc] [(.bool false)] k)
   (call Qgu [.one a1,.one a3] fun o2 =>
   unP .not (atP o2 0) fun r3 =>
   xad r3
    (rt [.sc] [(.bool false)] k)
    (rt [.sc] [(.bool true)] k))) u1) u0
 | _,_=>False
theorem Qgv_w:EO ⟨[32],Qgv⟩:=oFz (ec Qgs_w (ec Qgu_w en)) func32 fun av k h=>by
 unfold Qgv at h;split at h
 ·apply xab h;clear h;intro a0 a1 h;apply xab h;clear h;intro a2 a3 h;exact km h
 ·exact h.elim
def Qgw:GM
 | [.agg u0,.agg u1],k=>un 2 (fun a0 a1=>un 2 (fun a2 a3 =>
  xac .neq a0 a2 fun r0 =>
  xad r0
   (rt [.sc] [(.bool false)] k)
   (call Qgj [.one a1,.one a3] fun o1 =>
   unP .not (atP o1 0) fun r2 =>
   xad r2
    (rt [.sc] [(.bool false)] k)
    (rt [.sc] [(.bool true)] k))) u1) u0
 | _,_=>False
theorem Qgw_w:EO ⟨[279],Qgw⟩:=oFz (ec Qgj_w en) func279 fun av k h=>by
 unfold Qgw at h;split at h
 ·apply xab h;clear h;intro a0 a1 h;apply xab h;clear h;intro a2 a3 h;exact km h
 ·exact h.elim
def Qgx:GM
 | [.agg u0,.agg u1],k=>un 13 (fun a0 a1 a2 a3 a4 a5 a6 a7 a8 a9 a10 a11 a12=>un 13 (fun a13 a14 a15 a16 a17 a18 a19 a20 a21 a22 a23 a24 a25 =>
  xac .neq a0 a13 fun r0 =>
  xad r0
   (rt [.sc] [(.bool false)] k)
   (call Qgr [.agg [a1,a2,a3,a4],.agg [a14,a15,a16,a17]] fun o1 =>
   unP .not (atP o1 0) fun r2 =>
   xad r2
    (rt [.sc] [(.bool false)] k)
    (call Qgr [.agg [a5,a6,a7,a8],.agg [a18,a19,a20,a21]] fun o3 =>
    unP .not (atP o3 0) fun r4 =>
    xad r4
     (rt [.sc] [(.bool false)] k)
     (call Qgw [.agg [a9,a10],.agg [a22,a23]] fun o5 =>
     unP .not (atP o5 0) fun r6 =>
     xad r6
      (rt [.sc] [(.bool false)] k)
      (call Qgw [.agg [a11,a12],.agg [a24,a25]] fun o7 =>
      unP .not (atP o7 0) fun r8 =>
      xad r8
       (rt [.sc] [(.bool false)] k)
       (rt [.sc] [(.bool true)] k)))))) u1) u0
 | _,_=>False
theorem Qgx_w:EO ⟨[280],Qgx⟩:=oFz (ec Qgr_w (ec Qgw_w en)) func280 fun av k h=>by
 unfold Qgx at h;split at h
 ·apply xab h;clear h;(repeat intro _);rename_i h;apply xab h;clear h;(repeat intro _);rename_i h;exact km h
 ·exact h.elim
def Qgy:GM
 | [.agg u0,.agg u1],k=>un 21 (fun a0 a1 a2 a3 a4 a5 a6 a7 a8 a9 a10 a11 a12 a13 a14 a15 a16 a17 a18 a19 a20=>un 21 (fun a21 a22 a23 a24 a25 a26 a27 a28 a29 a30 a31 a32 a33 a34 a35 a36 a37 a38 a39 a40 a41 =>
  call Qgp [.one a0,.one a21] fun o0 =>
  unP .not (atP o0 0) fun r1 =>
  xad r1
   (rt [.sc] [(.bool false)] k)
   (xen .neq a1 a22 fun r2 =>
   xad r2
    (rt [.sc] [(.bool false)] k)
    (call Qgr [.agg [a2,a3,a4,a5],.agg [a23,a24,a25,a26]] fun o3 =>
    unP .not (atP o3 0) fun r4 =>
    xad r4
     (rt [.sc] [(.bool false)] k)
     (call Qgw [.agg [a6,a7],.agg [a27,a28]] fun o5 =>
     unP .not (atP o5 0) fun r6 =>
     xad r6
      (rt [.sc] [(.bool false)] k)
      (call Qgx [.agg [a8,a9,a10,a11,a12,a13,a14,a15,a16,a17,a18,a19,a20],.agg [a29,a30,a31,a32,a33,a34,a35,a36,a37,a38,a39,a40,a41]] fun o7 =>
      unP .not (atP o7 0) fun r8 =>
      xad r8
       (rt [.sc] [(.bool false)] k)
       (rt [.sc] [(.bool true)] k)))))) u1) u0
 | _,_=>False
theorem Qgy_w:EO ⟨[220],Qgy⟩:=oFz (ec Qgp_w (ec Qgr_w (ec Qgw_w (ec Qgx_w en)))) func220 fun av k h=>by
 unfold Qgy at h;split at h
 ·apply xab h;clear h;(repeat intro _);rename_i h;apply xab h;clear h;(repeat intro _);rename_i h;exact km h
 ·exact h.elim
def Qgz:GM
 | [.agg u0,.agg u1],k=>un 23 (fun a0 a1 a2 a3 a4 a5 a6 a7 a8 a9 a10 a11 a12 a13 a14 a15 a16 a17 a18 a19 a20 a21 a22=>un 23 (fun a23 a24 a25 a26 a27 a28 a29 a30 a31 a32 a33 a34 a35 a36 a37 a38 a39 a40 a41 a42 a43 a44 a45 =>
  xac .neq a0 a23 fun r0 =>
  xad r0
   (rt [.sc] [(.bool false)] k)
   (xac .neq a1 a24 fun r1 =>
   xad r1
    (rt [.sc] [(.bool false)] k)
    (call Qgy [.agg [a2,a3,a4,a5,a6,a7,a8,a9,a10,a11,a12,a13,a14,a15,a16,a17,a18,a19,a20,a21,a22],.agg [a25,a26,a27,a28,a29,a30,a31,a32,a33,a34,a35,a36,a37,a38,a39,a40,a41,a42,a43,a44,a45]] fun o2 =>
    unP .not (atP o2 0) fun r3 =>
    xad r3
     (rt [.sc] [(.bool false)] k)
     (rt [.sc] [(.bool true)] k)))) u1) u0
 | _,_=>False
theorem Qgz_w:EO ⟨[149],Qgz⟩:=oFz (ec Qgy_w en) func149 fun av k h=>by
 unfold Qgz at h;split at h
 ·apply xab h;clear h;(repeat intro _);rename_i h;apply xab h;clear h;(repeat intro _);rename_i h;exact km h
 ·exact h.elim
def Qha_r0 (v:List PV) (K:List PV→Prop) (x0k:Prop) (x1k:PV→PV→PV→PV→Prop):Prop :=
 un 4 (fun v0 v1 v2 v3 =>
  xaH v0 fun r0 =>
  xac .lss v3 r0 fun r1 =>
  xad r1
   (xaj 23 v0 v3 fun c2 =>
   xaj 23 v1 v3 fun c3 =>
   call Qgz [.agg [(atP c2 0),(atP c2 1),(atP c2 2),(atP c2 3),(atP c2 4),(atP c2 5),(atP c2 6),(atP c2 7),(atP c2 8),(atP c2 9),(atP c2 10),(atP c2 11),(atP c2 12),(atP c2 13),(atP c2 14),(atP c2 15),(atP c2 16),(atP c2 17),(atP c2 18),(atP c2 19),(atP c2 20),(atP c2 21),(atP c2 22)],.agg [(atP c3 0),(atP c3 1),(atP c3 2),(atP c3 3),(atP c3 4),(atP c3 5),(atP c3 6),(atP c3 7),(atP c3 8),(atP c3 9),(atP c3 10),(atP c3 11),(atP c3 12),(atP c3 13),(atP c3 14),(atP c3 15),(atP c3 16),(atP c3 17),(atP c3 18),(atP c3 19),(atP c3 20),(atP c3 21),(atP c3 22)]] fun o4 =>
   unP .not (atP o4 0) fun r5 =>
   xad r5
    (x0k)
    (xac .add v3 (I 1) fun r6 =>
    K [v0,v1,v2,r6]))
   (x1k v0 v1 v2 v3)) v
def Qha:GM
 | [.one a0,.one a1],k =>
  xaH a0 fun r0 =>
  xaH a1 fun r1 =>
  xac .neq r0 r1 fun r2 =>
  xad r2
   (rt [.sc] [(.bool false)] k)
   (lp (fun L w=>Qha_r0 w L
    (rt [.sc] [(.bool false)] k)
    (fun q7 q8 q9 q10=>rt [.sc] [(.bool true)] k)) [a0,a1,(.bool false),(I 0)])
 | _,_=>False
def Qha_l:List LE:=[⟨none,0,⟨[(0,.one zB),(1,.one zB),(4,.one zB),(5,.one zB)],[],[],0,27,[]⟩,fun K k v=>Qha_r0 v K (k .ret ⟨[(4,.one (.kb false))],[],[],1,27,[]⟩) (fun x0 x1 x2 x3=>k (.exit 0) ⟨[(0,.one (.pv x0)),(1,.one (.pv x1)),(4,.one (.pv x2)),(5,.one (.pv x3))],[],[],0,27,[]⟩)⟩]
theorem Qha_s:xaC [⟨[149],Qgz⟩] TT.nofl (kk [0,1,4,5]) Qha_l f67 Qha_l:=⟨fun v K k h=>by
 apply xab h;exact fun v0 v1 v2 v3 h=>km h
 ,trivial⟩
theorem Qha_w:EO ⟨[67],Qha⟩:=oF (ec Qgz_w en) (keep:=(kk [0,1,4,5])) (l:=Qha_l) func67 Qha_s fun av k h=>by
 unfold Qha at h;split at h
 ·exact km h
 ·exact h.elim
def Qhb_r0 (v:List PV) (K:List PV→Prop) (x0k:Prop) (x1k:PV→PV→PV→PV→Prop):Prop :=
 un 4 (fun v0 v1 v2 v3 =>
  xaH v0 fun r0 =>
  xac .lss v3 r0 fun r1 =>
  xad r1
   (xaj 1 v0 v3 fun c2 =>
   xac .neq (atP c2 0) v1 fun r3 =>
   xad r3
    (x0k)
    (xac .add v1 (I 1) fun r4 =>
    xac .add v3 (I 1) fun r5 =>
    K [v0,r4,v2,r5]))
   (x1k v0 v1 v2 v3)) v
def Qhb:GM
 | [.one a0,.one a1],k =>
  lp (fun L w=>Qhb_r0 w L
   (rt [.sc] [(I (-1))] k)
   (fun q6 q7 q8 q9=>rt [.sc] [q7] k)) [a0,a1,(I 0),(I 0)]
 | _,_=>False
def Qhb_l:List LE:=[⟨none,0,⟨[(0,.one zB),(1,.one zB),(4,.one zB),(5,.one zB)],[],[],0,21,[]⟩,fun K k v=>Qhb_r0 v K (k .ret ⟨[(4,.one (.pv (I (-1))))],[],[],0,21,[]⟩) (fun x0 x1 x2 x3=>k (.exit 0) ⟨[(0,.one (.pv x0)),(1,.one (.pv x1)),(4,.one (.pv x2)),(5,.one (.pv x3))],[],[],0,21,[]⟩)⟩]
theorem Qhb_s:xaC [] TT.nofl (kk [0,1,4,5]) Qhb_l f102 Qhb_l:=⟨fun v K k h=>by
 apply xab h;exact fun v0 v1 v2 v3 h=>km h
 ,trivial⟩
theorem Qhb_w:EO ⟨[102],Qhb⟩:=oF en (keep:=(kk [0,1,4,5])) (l:=Qhb_l) func102 Qhb_s fun av k h=>by
 unfold Qhb at h;split at h
 ·exact km h
 ·exact h.elim
def Qhc_r0 (v:List PV) (K:List PV→Prop) (x0k:Prop) (x1k:PV→PV→PV→PV→Prop):Prop :=
 un 4 (fun v0 v1 v2 v3 =>
  xaH v0 fun r0 =>
  xac .lss v3 r0 fun r1 =>
  xad r1
   (xaj 2 v0 v3 fun c2 =>
   xac .neq (atP c2 0) v1 fun r3 =>
   xad r3
    (x0k)
    (xac .add v1 (I 1) fun r4 =>
    xaj 2 v0 v3 fun c5 =>
    xac .neq (atP c5 1) r4 fun r6 =>
    xad r6
     (x0k)
     (xac .add r4 (I 1) fun r7 =>
     xac .add v3 (I 1) fun r8 =>
     K [v0,r7,v2,r8])))
   (x1k v0 v1 v2 v3)) v
def Qhc:GM
 | [.one a0,.one a1],k =>
  lp (fun L w=>Qhc_r0 w L
   (rt [.sc] [(I (-1))] k)
   (fun q9 q10 q11 q12=>rt [.sc] [q10] k)) [a0,a1,(I 0),(I 0)]
 | _,_=>False
def Qhc_l:List LE:=[⟨none,0,⟨[(0,.one zB),(1,.one zB),(4,.one zB),(5,.one zB)],[],[],0,31,[]⟩,fun K k v=>Qhc_r0 v K (k .ret ⟨[(4,.one (.pv (I (-1))))],[],[],0,31,[]⟩) (fun x0 x1 x2 x3=>k (.exit 0) ⟨[(0,.one (.pv x0)),(1,.one (.pv x1)),(4,.one (.pv x2)),(5,.one (.pv x3))],[],[],0,31,[]⟩)⟩]
theorem Qhc_s:xaC [] TT.nofl (kk [0,1,4,5]) Qhc_l f231 Qhc_l:=⟨fun v K k h=>by
 apply xab h;exact fun v0 v1 v2 v3 h=>km h
 ,trivial⟩
theorem Qhc_w:EO ⟨[231],Qhc⟩:=oF en (keep:=(kk [0,1,4,5])) (l:=Qhc_l) func231 Qhc_s fun av k h=>by
 unfold Qhc at h;split at h
 ·exact km h
 ·exact h.elim
def Qhd_r0 (v:List PV) (K:List PV→Prop) (x0k:Prop) (x1k:Prop) (x2k:Prop) (x3k:Prop) (x4k:Prop) (x5k:PV→PV→PV→PV→Prop):Prop :=
 un 4 (fun v0 v1 v2 v3 =>
  xaH v0 fun r0 =>
  xac .lss v3 r0 fun r1 =>
  xad r1
   (xaj 17 v0 v3 fun c2 =>
   xac .neq (atP c2 0) v1 fun r3 =>
   xad r3
    (x0k)
    (xac .add v1 (I 1) fun r4 =>
    xaj 17 v0 v3 fun c5 =>
    xac .neq (atP c5 1) r4 fun r6 =>
    xad r6
     (x0k)
     (xac .add r4 (I 1) fun r7 =>
     xaj 17 v0 v3 fun c8 =>
     xac .neq (atP c8 2) r7 fun r9 =>
     xad r9
      (x0k)
      (xac .add r7 (I 1) fun r10 =>
      xaj 17 v0 v3 fun c11 =>
      xac .neq (atP c11 3) r10 fun r12 =>
      xad r12
       (x0k)
       (xac .add r10 (I 1) fun r13 =>
       xaj 17 v0 v3 fun c14 =>
       xac .neq (atP c14 4) r13 fun r15 =>
       xad r15
        (x0k)
        (xac .add r13 (I 1) fun r16 =>
        xaj 17 v0 v3 fun c17 =>
        xac .neq (atP c17 5) r16 fun r18 =>
        xad r18
         (x0k)
         (xac .add r16 (I 1) fun r19 =>
         xaj 17 v0 v3 fun c20 =>
         xac .neq (atP c20 6) r19 fun r21 =>
         xad r21
          (x0k)
          (xac .add r19 (I 1) fun r22 =>
          xaj 17 v0 v3 fun c23 =>
          xac .neq (atP c23 7) r22 fun r24 =>
          xad r24
           (x0k)
           (xac .add r22 (I 1) fun r25 =>
           xaj 17 v0 v3 fun c26 =>
           call Qhb [.one (atP c26 8),.one r25] fun o27 =>
           xac .lss (atP o27 0) (I 0) fun r28 =>
           xad r28
            (x1k)
            (xaj 17 v0 v3 fun c29 =>
            xac .neq (atP c29 9) (atP o27 0) fun r30 =>
            xad r30
             (x1k)
             (xac .add (atP o27 0) (I 1) fun r31 =>
             xaj 17 v0 v3 fun c32 =>
             call Qhb [.one (atP c32 10),.one r31] fun o33 =>
             xac .lss (atP o33 0) (I 0) fun r34 =>
             xad r34
              (x2k)
              (xaj 17 v0 v3 fun c35 =>
              xac .neq (atP c35 11) (atP o33 0) fun r36 =>
              xad r36
               (x2k)
               (xac .add (atP o33 0) (I 1) fun r37 =>
               xaj 17 v0 v3 fun c38 =>
               xac .neq (atP c38 12) r37 fun r39 =>
               xad r39
                (x2k)
                (xac .add r37 (I 1) fun r40 =>
                xaj 17 v0 v3 fun c41 =>
                call Qhb [.one (atP c41 13),.one r40] fun o42 =>
                xac .lss (atP o42 0) (I 0) fun r43 =>
                xad r43
                 (x3k)
                 (xaj 17 v0 v3 fun c44 =>
                 xac .neq (atP c44 14) (atP o42 0) fun r45 =>
                 xad r45
                  (x3k)
                  (xac .add (atP o42 0) (I 1) fun r46 =>
                  xaj 17 v0 v3 fun c47 =>
                  xac .rem r46 (I 3) fun r48 =>
                  xac .eql r48 (I 0) fun r49 =>
                  xen .neq (atP c47 15) r49 fun r50 =>
                  xad r50
                   (x3k)
                   (xac .add r46 (I 1) fun r51 =>
                   xaj 17 v0 v3 fun c52 =>
                   call Qhc [.one (atP c52 16),.one r51] fun o53 =>
                   xac .lss (atP o53 0) (I 0) fun r54 =>
                   xad r54
                    (x4k)
                    (xac .add v3 (I 1) fun r55 =>
                    K [v0,(atP o53 0),v2,r55]))))))))))))))))))
   (x5k v0 v1 v2 v3)) v
def Qhd:GM
 | [.one a0,.one a1],k =>
  lp (fun L w=>Qhd_r0 w L
   (rt [.sc] [(I (-1))] k)
   (rt [.sc] [(I (-1))] k)
   (rt [.sc] [(I (-1))] k)
   (rt [.sc] [(I (-1))] k)
   (rt [.sc] [(I (-1))] k)
   (fun q56 q57 q58 q59=>rt [.sc] [q57] k)) [a0,a1,(I 0),(I 0)]
 | _,_=>False
def Qhd_l:List LE:=[⟨none,0,⟨[(0,.one zB),(1,.one zB),(4,.one zB),(5,.one zB)],[],[],0,190,[]⟩,fun K k v=>Qhd_r0 v K (k .ret ⟨[(4,.one (.pv (I (-1))))],[],[],0,190,[]⟩) (k .ret ⟨[(4,.one (.pv (I (-1))))],[],[],1,190,[]⟩) (k .ret ⟨[(4,.one (.pv (I (-1))))],[],[],2,190,[]⟩) (k .ret ⟨[(4,.one (.pv (I (-1))))],[],[],3,190,[]⟩) (k .ret ⟨[(4,.one (.pv (I (-1))))],[],[],4,190,[]⟩) (fun x0 x1 x2 x3=>k (.exit 0) ⟨[(0,.one (.pv x0)),(1,.one (.pv x1)),(4,.one (.pv x2)),(5,.one (.pv x3))],[],[],0,190,[]⟩)⟩]
theorem Qhd_s:xaC [⟨[102],Qhb⟩,⟨[231],Qhc⟩] TT.nofl (kk [0,1,4,5]) Qhd_l f165 Qhd_l:=⟨fun v K k h=>by
 apply xab h;exact fun v0 v1 v2 v3 h=>km h
 ,trivial⟩
theorem Qhd_w:EO ⟨[165],Qhd⟩:=oF (ec Qhb_w (ec Qhc_w en)) (keep:=(kk [0,1,4,5])) (l:=Qhd_l) func165 Qhd_s fun av k h=>by
 unfold Qhd at h;split at h
 ·exact km h
 ·exact h.elim
def Qhe_r0 (v:List PV) (K:List PV→Prop) (x0k:Prop) (x1k:PV→PV→PV→PV→Prop):Prop :=
 un 4 (fun v0 v1 v2 v3 =>
  xaH v0 fun r0 =>
  xac .lss v3 r0 fun r1 =>
  xad r1
   (xaj 1 v0 v3 fun c2 =>
   call laws_markText [.one v1] fun o3 =>
   xac .neq (atP c2 0) (atP o3 0) fun r4 =>
   xad r4
    (x0k)
    (xac .add v1 (I 1) fun r5 =>
    xac .add v3 (I 1) fun r6 =>
    K [v0,r5,v2,r6]))
   (x1k v0 v1 v2 v3)) v
def Qhe:GM
 | [.one a0,.one a1],k =>
  lp (fun L w=>Qhe_r0 w L
   (rt [.sc] [(I (-1))] k)
   (fun q7 q8 q9 q10=>rt [.sc] [q8] k)) [a0,a1,(I 0),(I 0)]
 | _,_=>False
def Qhe_l:List LE:=[⟨none,0,⟨[(0,.one zB),(1,.one zB),(4,.one zB),(5,.one zB)],[],[],0,22,[]⟩,fun K k v=>Qhe_r0 v K (k .ret ⟨[(4,.one (.pv (I (-1))))],[],[],1,22,[]⟩) (fun x0 x1 x2 x3=>k (.exit 0) ⟨[(0,.one (.pv x0)),(1,.one (.pv x1)),(4,.one (.pv x2)),(5,.one (.pv x3))],[],[],0,22,[]⟩)⟩]
theorem Qhe_s:xaC [laws_markText_e] TT.nofl (kk [0,1,4,5]) Qhe_l f78 Qhe_l:=⟨fun v K k h=>by
 apply xab h;exact fun v0 v1 v2 v3 h=>km h
 ,trivial⟩
theorem Qhe_w:EO ⟨[78],Qhe⟩:=oF (ec laws_markText_w en) (keep:=(kk [0,1,4,5])) (l:=Qhe_l) func78 Qhe_s fun av k h=>by
 unfold Qhe at h;split at h
 ·exact km h
 ·exact h.elim
def Qhf_r0 (v:List PV) (K:List PV→Prop) (x0k:Prop) (x1k:PV→PV→PV→PV→Prop):Prop :=
 un 4 (fun v0 v1 v2 v3 =>
  xaH v0 fun r0 =>
  xac .lss v3 r0 fun r1 =>
  xad r1
   (xaj 1 v0 v3 fun c2 =>
   call Qhd [.one (atP c2 0),.one v1] fun o3 =>
   xac .lss (atP o3 0) (I 0) fun r4 =>
   xad r4
    (x0k)
    (xac .add v3 (I 1) fun r5 =>
    K [v0,(atP o3 0),v2,r5]))
   (x1k v0 v1 v2 v3)) v
def Qhf:GM
 | [.one a0,.one a1],k =>
  lp (fun L w=>Qhf_r0 w L
   (rt [.sc] [(I (-1))] k)
   (fun q6 q7 q8 q9=>rt [.sc] [q7] k)) [a0,a1,(I 0),(I 0)]
 | _,_=>False
def Qhf_l:List LE:=[⟨none,0,⟨[(0,.one zB),(1,.one zB),(4,.one zB),(5,.one zB)],[],[],0,21,[]⟩,fun K k v=>Qhf_r0 v K (k .ret ⟨[(4,.one (.pv (I (-1))))],[],[],1,21,[]⟩) (fun x0 x1 x2 x3=>k (.exit 0) ⟨[(0,.one (.pv x0)),(1,.one (.pv x1)),(4,.one (.pv x2)),(5,.one (.pv x3))],[],[],0,21,[]⟩)⟩]
theorem Qhf_s:xaC [⟨[165],Qhd⟩] TT.nofl (kk [0,1,4,5]) Qhf_l f183 Qhf_l:=⟨fun v K k h=>by
 apply xab h;exact fun v0 v1 v2 v3 h=>km h
 ,trivial⟩
theorem Qhf_w:EO ⟨[183],Qhf⟩:=oF (ec Qhd_w en) (keep:=(kk [0,1,4,5])) (l:=Qhf_l) func183 Qhf_s fun av k h=>by
 unfold Qhf at h;split at h
 ·exact km h
 ·exact h.elim
end Go.Ev
