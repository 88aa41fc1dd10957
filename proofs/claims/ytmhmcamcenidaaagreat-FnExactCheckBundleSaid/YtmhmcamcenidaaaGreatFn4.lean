/- For each function the meaning that the evaluator gives it, proved, part 4. -/
import Derived.Test.YtmhmcamcenidaaaGreatFn3
set_option linter.unusedVariables false
set_option linter.unusedSimpArgs false
set_option maxRecDepth 100000
namespace Go.Ev
open Go.Proofs Go.Proofs.Tryz
def Qiv:GM
 | [.one a0,.one a1],k =>
  call Qfu [.one a0] fun o0 =>
  unP .not (atP o0 0) fun r1 =>
  xad r1
   (rt g6 [(I 0),(.str ⟨#[]⟩),(I 0),(I 0),(.list 1 []),(.str ⟨#[]⟩),(I 0),(I 0),(.list 1 []),(I 0),(.list 1 []),(I 0),(.list 1 []),(.bool false)] k)
   (call Qfl [.one a1] fun o2 =>
   unP .not (atP o2 0) fun r3 =>
   xad r3
    (rt g6 [(I 0),(.str ⟨#[]⟩),(I 0),(I 0),(.list 1 []),(.str ⟨#[]⟩),(I 0),(I 0),(.list 1 []),(I 0),(.list 1 []),(I 0),(.list 1 []),(.bool false)] k)
    (call Qir [.one a0,.one a1] fun o4 =>
    xac .geq (atP o4 0) (I 0) fun r5 =>
    xad r5
     (rt g6 [(I 0),(.str ⟨#[]⟩),(I 0),(I 0),(.list 1 []),(.str ⟨#[]⟩),(I 0),(I 0),(.list 1 []),(I 0),(.list 1 []),(I 0),(.list 1 []),(.bool false)] k)
     (call Qiu [.one a0,.one a1] fun o6 =>
     xac .gtr (atP o6 0) (I 0) fun r7 =>
     xad r7
      (xac .sub (atP o6 0) (I 1) fun r8 =>
      xaj 4 a0 r8 fun c9 =>
      call Qdo [.agg (s4 c9)] fun o10 =>
      call Qit [.one a0,.one (atP o10 0)] fun o11 =>
      xaH a0 fun r12 =>
      xac .lss (atP o6 0) r12 fun r13 =>
      xad r13
       (xaj 4 a0 (atP o6 0) fun c14 =>
       call Qdo [.agg (s4 c14)] fun o15 =>
       call Qit [.one a0,.one (atP o15 0)] fun o16 =>
       rt g6 [(atP o6 0),(atP o10 0),(atP o10 1),(atP o10 2),(atP o10 3),(atP o15 0),(atP o15 1),(atP o15 2),(atP o15 3),(atP o11 0),(atP o11 1),(atP o16 0),(atP o16 1),(.bool true)] k)
       (rt g6 [(atP o6 0),(atP o10 0),(atP o10 1),(atP o10 2),(atP o10 3),(.str ⟨#[]⟩),(I 0),(I 0),(.list 1 []),(atP o11 0),(atP o11 1),(I 0),(.list 1 []),(.bool true)] k))
      (xaH a0 fun r17 =>
      xac .lss (atP o6 0) r17 fun r18 =>
      xad r18
       (xaj 4 a0 (atP o6 0) fun c19 =>
       call Qdo [.agg (s4 c19)] fun o20 =>
       call Qit [.one a0,.one (atP o20 0)] fun o21 =>
       rt g6 [(atP o6 0),(.str ⟨#[]⟩),(I 0),(I 0),(.list 1 []),(atP o20 0),(atP o20 1),(atP o20 2),(atP o20 3),(I 0),(.list 1 []),(atP o21 0),(atP o21 1),(.bool true)] k)
       (rt g6 [(atP o6 0),(.str ⟨#[]⟩),(I 0),(I 0),(.list 1 []),(.str ⟨#[]⟩),(I 0),(I 0),(.list 1 []),(I 0),(.list 1 []),(I 0),(.list 1 []),(.bool true)] k)))))
 | _,_=>False
theorem Qiv_w:EO ⟨[310],Qiv⟩:=oFz (ec Qfu_w (ec Qfl_w (ec Qir_w (ec Qiu_w (ec Qdo_w (ec Qit_w en)))))) func310 fun av k h=>by
 unfold Qiv at h;split at h
 ·exact km h
 ·exact h.elim
def Qiw:GM
 | [.agg u0,.one a2],k=>un 2 (fun a0 a1 =>
  call Qgh [.agg [a0,a1]] fun o0 =>
  unP .not (atP o0 0) fun r1 =>
  xad r1
   (rt g1 [(.list 17 []),(.bool false),(.str ⟨#[]⟩),(I 0),(I 0),(.list 1 []),(I 0),(.list 1 []),(I 0),(.str ⟨#[]⟩),(I 0),(I 0),(.list 1 []),(.str ⟨#[]⟩),(I 0),(I 0),(.list 1 []),(I 0),(.list 1 []),(I 0),(.list 1 [])] k)
   (call Qfl [.one a2] fun o2 =>
   unP .not (atP o2 0) fun r3 =>
   xad r3
    (rt g1 [(.list 17 []),(.bool false),(.str ⟨#[]⟩),(I 0),(I 0),(.list 1 []),(I 0),(.list 1 []),(I 0),(.str ⟨#[]⟩),(I 0),(I 0),(.list 1 []),(.str ⟨#[]⟩),(I 0),(I 0),(.list 1 []),(I 0),(.list 1 []),(I 0),(.list 1 [])] k)
    (call Qdm [.one a0] fun o4 =>
    call Qir [.one a1,.one a2] fun o5 =>
    xac .geq (atP o5 0) (I 0) fun r6 =>
    xad r6
     (xaj 4 a1 (atP o5 0) fun c7 =>
     call Qdo [.agg (s4 c7)] fun o8 =>
     call Qit [.one a1,.one a2] fun o9 =>
     rt g1 [(atP o4 0),(.bool true),(atP o8 0),(atP o8 1),(atP o8 2),(atP o8 3),(atP o9 0),(atP o9 1),(I 0),(.str ⟨#[]⟩),(I 0),(I 0),(.list 1 []),(.str ⟨#[]⟩),(I 0),(I 0),(.list 1 []),(I 0),(.list 1 []),(I 0),(.list 1 [])] k)
     (call Qiv [.one a1,.one a2] fun o10 =>
     rt g1 [(atP o4 0),(.bool false),(.str ⟨#[]⟩),(I 0),(I 0),(.list 1 []),(I 0),(.list 1 []),(atP o10 0),(atP o10 1),(atP o10 2),(atP o10 3),(atP o10 4),(atP o10 5),(atP o10 6),(atP o10 7),(atP o10 8),(atP o10 9),(atP o10 10),(atP o10 11),(atP o10 12)] k)))) u0
 | _,_=>False
theorem Qiw_w:EO ⟨[252],Qiw⟩:=oFz (ec Qgh_w (ec Qfl_w (ec Qdm_w (ec Qir_w (ec Qdo_w (ec Qit_w (ec Qiv_w en))))))) func252 fun av k h=>by
 unfold Qiw at h;split at h
 ·apply xab h;clear h;intro a0 a1 h;exact km h
 ·exact h.elim
def Qix:GM
 | [.agg u0,.one a2,.one a3],k=>un 2 (fun a0 a1 =>
  call Qio [.agg [a0,a1],.one a2] fun o0 =>
  xac .lss (atP o0 0) (I 0) fun r1 =>
  xad r1
   (rt g1 [(.list 17 []),(.bool false),(.str ⟨#[]⟩),(I 0),(I 0),(.list 1 []),(I 0),(.list 1 []),(I 0),(.str ⟨#[]⟩),(I 0),(I 0),(.list 1 []),(.str ⟨#[]⟩),(I 0),(I 0),(.list 1 []),(I 0),(.list 1 []),(I 0),(.list 1 [])] k)
   (xac .eql a1 (I 4) fun r2 =>
   xad r2
    (rt g1 [(.list 17 []),(.bool false),(.str ⟨#[]⟩),(I 0),(I 0),(.list 1 []),(I 0),(.list 1 []),(I 0),(.str ⟨#[]⟩),(I 0),(I 0),(.list 1 []),(.str ⟨#[]⟩),(I 0),(I 0),(.list 1 []),(I 0),(.list 1 []),(I 0),(.list 1 [])] k)
    (xaj 2 a0 (atP o0 0) fun c3 =>
    call Qiw [.agg [(atP c3 0),(atP c3 1)],.one a3] fun o4 =>
    xac .eql a1 (I 1) fun r5 =>
    xad r5
     (xac .add (atP o4 4) (I 1) fun r6 =>
     rt g1 [(atP o4 0),(atP o4 1),(atP o4 2),(atP o4 3),r6,(atP o4 5),(atP o4 6),(atP o4 7),(atP o4 8),(atP o4 9),(atP o4 10),(atP o4 11),(atP o4 12),(atP o4 13),(atP o4 14),(atP o4 15),(atP o4 16),(atP o4 17),(atP o4 18),(atP o4 19),(atP o4 20)] k)
     (xac .eql a1 (I 2) fun r7 =>
     xad r7
      (xaH (atP o4 0) fun r8 =>
      xac .sub r8 (I 1) fun r9 =>
      xuh (I 0) r9 fun r10 =>
      xg6 r10 fun n11 =>
      xf8 17 (atP o4 0) none (some n11) fun r12 =>
      rt g1 [r12,(atP o4 1),(atP o4 2),(atP o4 3),(atP o4 4),(atP o4 5),(atP o4 6),(atP o4 7),(atP o4 8),(atP o4 9),(atP o4 10),(atP o4 11),(atP o4 12),(atP o4 13),(atP o4 14),(atP o4 15),(atP o4 16),(atP o4 17),(atP o4 18),(atP o4 19),(atP o4 20)] k)
      (xac .eql a1 (I 3) fun r13 =>
      xad r13
       (rt g1 [(atP o4 0),(.bool false),(.str ⟨#[]⟩),(I 0),(I 0),(.list 1 []),(I 0),(.list 1 []),(I 0),(.str ⟨#[]⟩),(I 0),(I 0),(.list 1 []),(.str ⟨#[]⟩),(I 0),(I 0),(.list 1 []),(I 0),(.list 1 []),(I 0),(.list 1 [])] k)
       (rt g1 (s21 o4) k)))))) u0
 | _,_=>False
theorem Qix_w:EO ⟨[180],Qix⟩:=oMz (ec Qio_w (ec Qiw_w en)) func180 fun av k h=>by
 unfold Qix at h;split at h
 ·apply xab h;clear h;intro a0 a1 h;exact km h
 ·exact h.elim
def Qiy:GM
 | [.one a0],k =>
  call Qfj [.one a0] fun o0 =>
  unP .not (atP o0 0) fun r1 =>
  xad r1
   (rt g25 [(I 0),(I 0),(I 0),(I 0),(I 0),(I 0),(I 0),(I 0),(.list 1 []),(I 0),(.list 1 []),(I 0),(I 0),(.list 1 []),(I 0),(.bool false),(.bool false)] k)
   (call Qfk [.one a0] fun o2 =>
   call Qdj [.agg (s16 o2)] fun o3 =>
   rt g25 [(atP o3 0),(atP o3 1),(atP o3 2),(atP o3 3),(atP o3 4),(atP o3 5),(atP o3 6),(atP o3 7),(atP o3 8),(atP o3 9),(atP o3 10),(atP o3 11),(atP o3 12),(atP o3 13),(atP o3 14),(atP o3 15),(.bool true)] k)
 | _,_=>False
theorem Qiy_w:EO ⟨[288],Qiy⟩:=oFz (ec Qfj_w (ec Qfk_w (ec Qdj_w en))) func288 fun av k h=>by
 unfold Qiy at h;split at h
 ·exact km h
 ·exact h.elim
def Qiz:GM
 | [.agg u0,.one a16],k=>un 16 (fun a0 a1 a2 a3 a4 a5 a6 a7 a8 a9 a10 a11 a12 a13 a14 a15 =>
  call Qdw [.one a16,.one a3,.one a4] fun o0 =>
  rt [.sc] [(atP o0 0)] k) u0
 | _,_=>False
theorem Qiz_w:EO ⟨[289],Qiz⟩:=oFz (ec Qdw_w en) func289 fun av k h=>by
 unfold Qiz at h;split at h
 ·apply xab h;clear h;(repeat intro _);rename_i h;exact km h
 ·exact h.elim
def Qja_r0 (v:List PV) (K:List PV→Prop) (x0k:Prop) (x1k:Cur 6):Prop :=
 un 6 (fun v0 v1 v2 v3 v4 v5 =>
  xac .gtr v2 (I 1) fun r0 =>
  xad r0
   (xac .xor v1 (I 1) fun r1 =>
   xac .geq r1 v2 fun r2 =>
   xad r2
    (xac .quo v1 (I 2) fun r3 =>
    xac .add v2 (I 1) fun r4 =>
    xac .quo r4 (I 2) fun r5 =>
    K [v0,r3,r5,v3,v4,v5])
    (xaH v3 fun r6 =>
    xac .eql r6 (I 0) fun r7 =>
    xad r7
     (x0k)
     (xac .rem v1 (I 2) fun r8 =>
     xac .eql r8 (I 0) fun r9 =>
     xad r9
      (xaj 1 v3 (I 0) fun c10 =>
      call Qgb [.one v0,.one (atP c10 0)] fun o11 =>
      xg6 (I 1) fun n12 =>
      xf8 1 v3 (some n12) none fun r13 =>
      xac .quo v1 (I 2) fun r14 =>
      xac .add v2 (I 1) fun r15 =>
      xac .quo r15 (I 2) fun r16 =>
      K [(atP o11 0),r14,r16,r13,v4,v5])
      (xaj 1 v3 (I 0) fun c17 =>
      call Qgb [.one (atP c17 0),.one v0] fun o18 =>
      xg6 (I 1) fun n19 =>
      xf8 1 v3 (some n19) none fun r20 =>
      xac .quo v1 (I 2) fun r21 =>
      xac .add v2 (I 1) fun r22 =>
      xac .quo r22 (I 2) fun r23 =>
      K [(atP o18 0),r21,r23,r20,v4,v5]))))
   (x1k v0 v1 v2 v3 v4 v5)) v
def Qja:GM
 | [.one a0,.one a1,.one a2,.one a3],k =>
  xac .lss a2 (I 1) fun r0 =>
  xad r0
   (rt [.sc,.sc] [(I 0),(.bool false)] k)
   (xac .gtr a2 (I 12) fun r1 =>
   xad r1
    (rt [.sc,.sc] [(I 0),(.bool false)] k)
    (xac .sub a2 (I 1) fun r2 =>
    call Qdw [.one a1,.one (I 0),.one r2] fun o3 =>
    unP .not (atP o3 0) fun r4 =>
    xad r4
     (rt [.sc,.sc] [(I 0),(.bool false)] k)
     (lp (fun L w=>Qja_r0 w L
      (rt [.sc,.sc] [(I 0),(.bool false)] k)
      (fun q24 q25 q26 q27 q28 q29=>xaH q27 fun r30 =>
       xac .gtr r30 (I 0) fun r31 =>
       xad r31
        (rt [.sc,.sc] [(I 0),(.bool false)] k)
        (rt [.sc,.sc] [q24,(.bool true)] k))) [a0,a1,a2,a3,(I 0),(.bool false)])))
 | _,_=>False
def Qja_l:List LE:=[⟨none,0,⟨[(0,.one zB),(1,.one zB),(2,.one zB),(3,.one zB),(8,.one zB),(9,.one zB)],[],[],1,56,[]⟩,fun K k v=>Qja_r0 v K (k .ret ⟨[(8,.one (.pv (I 0))),(9,.one (.kb false))],[],[],1,56,[]⟩) (fun x0 x1 x2 x3 x4 x5=>k (.exit 0) ⟨[(0,.one (.pv x0)),(1,.one (.pv x1)),(2,.one (.pv x2)),(3,.one (.pv x3)),(8,.one (.pv x4)),(9,.one (.pv x5))],[],[],1,56,[]⟩)⟩]
theorem Qja_s:xaC [⟨[266],Qdw⟩,⟨[422],Qgb⟩] TT.nofl (kk [0,1,2,3,8,9,999999]) Qja_l f392 Qja_l:=⟨fun v K k h=>by
 apply xab h;exact fun v0 v1 v2 v3 v4 v5 h=>km h
 ,trivial⟩
theorem Qja_w:EO ⟨[392],Qja⟩:=oF (ec Qdw_w (ec Qgb_w en)) (keep:=(kk [0,1,2,3,8,9,999999])) (l:=Qja_l) func392 Qja_s fun av k h=>by
 unfold Qja at h;split at h
 ·exact km h
 ·exact h.elim
def Qjb:GM
 | [.one a0,.one a1,.agg u0,.agg u1],k=>un 4 (fun a2 a3 a4 a5=>un 2 (fun a6 a7 =>
  call Qfy [.agg [a2,a3,a4,a5]] fun o0 =>
  call Qja [.one (atP o0 0),.one a6,.one a1,.one a7] fun o1 =>
  xad (atP o1 1)
   (call Qfq [.agg [a2,a3,a4,a5]] fun o2 =>
   xad (atP o2 0)
    (call Qge [.one a1,.one (atP o1 0)] fun o3 =>
    xac .eql (atP o3 0) a0 fun r4 =>
    rt [.sc] [r4] k)
    (rt [.sc] [(.bool false)] k))
   (rt [.sc] [(.bool false)] k)) u1) u0
 | _,_=>False
theorem Qjb_w:EO ⟨[341],Qjb⟩:=oFz (ec Qfy_w (ec Qja_w (ec Qfq_w (ec Qge_w en)))) func341 fun av k h=>by
 unfold Qjb at h;split at h
 ·apply xab h;clear h;intro a2 a3 a4 a5 h;apply xab h;clear h;intro a6 a7 h;exact km h
 ·exact h.elim
def Qjc_r0 (v:List PV) (K:List PV→Prop) (x0k:Prop) (x1k:Cur 5):Prop :=
 un 5 (fun v0 v1 v2 v3 v4 =>
  xac .lss v4 v3 fun r0 =>
  xad r0
   (xaj 1 v0 v4 fun c1 =>
   xaj 1 v1 v4 fun c2 =>
   xac .neq (atP c1 0) (atP c2 0) fun r3 =>
   xad r3
    (x0k)
    (xac .add v4 (I 1) fun r4 =>
    K [v0,v1,v2,v3,r4]))
   (x1k v0 v1 v2 v3 v4)) v
def Qjc:GM
 | [.one a0,.one a1],k =>
  xaH a0 fun r0 =>
  xaH a1 fun r1 =>
  xac .neq r0 r1 fun r2 =>
  xad r2
   (rt [.sc] [(.bool false)] k)
   (xaH a0 fun r3 =>
   lp (fun L w=>Qjc_r0 w L
    (rt [.sc] [(.bool false)] k)
    (fun q5 q6 q7 q8 q9=>rt [.sc] [(.bool true)] k)) [a0,a1,(.bool false),r3,(I 0)])
 | _,_=>False
def Qjc_l:List LE:=[⟨none,0,⟨[(0,.one zB),(1,.one zB),(4,.one zB),(12,.one zB),(13,.one zB)],[],[],0,26,[]⟩,fun K k v=>Qjc_r0 v K (k .ret ⟨[(4,.one (.kb false))],[],[],0,26,[]⟩) (fun x0 x1 x2 x3 x4=>k (.exit 0) ⟨[(0,.one (.pv x0)),(1,.one (.pv x1)),(4,.one (.pv x2)),(12,.one (.pv x3)),(13,.one (.pv x4))],[],[],0,26,[]⟩)⟩]
theorem Qjc_s:xaC [] TT (kk [0,1,4,12,13]) Qjc_l f424 Qjc_l:=⟨fun v K k h=>by
 apply xab h;exact fun v0 v1 v2 v3 v4 h=>km h
 ,trivial⟩
theorem Qjc_w:EO ⟨[424],Qjc⟩:=oN en (keep:=(kk [0,1,4,12,13])) (l:=Qjc_l) func424 Qjc_s fun av k h=>by
 unfold Qjc at h;split at h
 ·exact km h
 ·exact h.elim
def Qjd:GM
 | [.agg u0,.agg u1],k=>un 4 (fun a0 a1 a2 a3=>un 4 (fun a4 a5 a6 a7 =>
  xac .eql a0 a4 fun r0 =>
  xad r0
   (xac .eql a1 a5 fun r1 =>
   xad r1
    (xac .eql a2 a6 fun r2 =>
    xad r2
     (call Qjc [.one a3,.one a7] fun o3 =>
     rt [.sc] [(atP o3 0)] k)
     (rt [.sc] [(.bool false)] k))
    (rt [.sc] [(.bool false)] k))
   (rt [.sc] [(.bool false)] k)) u1) u0
 | _,_=>False
theorem Qjd_w:EO ⟨[394],Qjd⟩:=oFz (ec Qjc_w en) func394 fun av k h=>by
 unfold Qjd at h;split at h
 ·apply xab h;clear h;intro a0 a1 a2 a3 h;apply xab h;clear h;intro a4 a5 a6 a7 h;exact km h
 ·exact h.elim
def Qje:GM
 | [.agg u0,.agg u1],k=>un 2 (fun a0 a1=>un 2 (fun a2 a3 =>
  xac .eql a0 a2 fun r0 =>
  xad r0
   (call Qfb [.one a1,.one a3] fun o1 =>
   rt [.sc] [(atP o1 0)] k)
   (rt [.sc] [(.bool false)] k)) u1) u0
 | _,_=>False
theorem Qje_w:EO ⟨[395],Qje⟩:=oFz (ec Qfb_w en) func395 fun av k h=>by
 unfold Qje at h;split at h
 ·apply xab h;clear h;intro a0 a1 h;apply xab h;clear h;intro a2 a3 h;exact km h
 ·exact h.elim
def Qjf:GM
 | [.agg u0,.agg u1],k=>un 13 (fun a0 a1 a2 a3 a4 a5 a6 a7 a8 a9 a10 a11 a12=>un 13 (fun a13 a14 a15 a16 a17 a18 a19 a20 a21 a22 a23 a24 a25 =>
  xac .eql a0 a13 fun r0 =>
  xad r0
   (call Qjd [.agg [a1,a2,a3,a4],.agg [a14,a15,a16,a17]] fun o1 =>
   xad (atP o1 0)
    (call Qjd [.agg [a5,a6,a7,a8],.agg [a18,a19,a20,a21]] fun o2 =>
    xad (atP o2 0)
     (call Qje [.agg [a9,a10],.agg [a22,a23]] fun o3 =>
     xad (atP o3 0)
      (call Qje [.agg [a11,a12],.agg [a24,a25]] fun o4 =>
      rt [.sc] [(atP o4 0)] k)
      (rt [.sc] [(.bool false)] k))
     (rt [.sc] [(.bool false)] k))
    (rt [.sc] [(.bool false)] k))
   (rt [.sc] [(.bool false)] k)) u1) u0
 | _,_=>False
theorem Qjf_w:EO ⟨[342],Qjf⟩:=oFz (ec Qjd_w (ec Qje_w en)) func342 fun av k h=>by
 unfold Qjf at h;split at h
 ·apply xab h;clear h;(repeat intro _);rename_i h;apply xab h;clear h;(repeat intro _);rename_i h;exact km h
 ·exact h.elim
def Qjg:GM
 | [.agg u0],k=>un 4 (fun a0 a1 a2 a3 =>
  call Qjd [.agg [a0,a1,a2,a3],.agg [(.str ⟨#[]⟩),(I 0),(I 0),(.list 1 [])]] fun o0 =>
  rt [.sc] [(atP o0 0)] k) u0
 | _,_=>False
theorem Qjg_w:EO ⟨[344],Qjg⟩:=oFz (ec Qjd_w en) func344 fun av k h=>by
 unfold Qjg at h;split at h
 ·apply xab h;clear h;intro a0 a1 a2 a3 h;exact km h
 ·exact h.elim
def Qjh:GM
 | [.agg u0],k=>un 2 (fun a0 a1 =>
  call Qje [.agg [a0,a1],.agg [(I 0),(.list 1 [])]] fun o0 =>
  rt [.sc] [(atP o0 0)] k) u0
 | _,_=>False
theorem Qjh_w:EO ⟨[345],Qjh⟩:=oFz (ec Qje_w en) func345 fun av k h=>by
 unfold Qjh at h;split at h
 ·apply xab h;clear h;intro a0 a1 h;exact km h
 ·exact h.elim
def Qji:GM
 | [.one a0,.one a1,.agg u0,.agg u1,.one a8],k=>un 4 (fun a2 a3 a4 a5=>un 2 (fun a6 a7 =>
  xac .sub a1 (I 1) fun r0 =>
  call Qdw [.one a8,.one (I 0),.one r0] fun o1 =>
  unP .not (atP o1 0) fun r2 =>
  xad r2
   (call Qjg [.agg [a2,a3,a4,a5]] fun o3 =>
   xad (atP o3 0)
    (call Qjh [.agg [a6,a7]] fun o4 =>
    rt [.sc] [(atP o4 0)] k)
    (rt [.sc] [(.bool false)] k))
   (call Qjb [.one a0,.one a1,.agg [a2,a3,a4,a5],.agg [a6,a7]] fun o5 =>
   xad (atP o5 0)
    (xac .eql a6 a8 fun r6 =>
    rt [.sc] [r6] k)
    (rt [.sc] [(.bool false)] k))) u1) u0
 | _,_=>False
theorem Qji_w:EO ⟨[396],Qji⟩:=oFz (ec Qdw_w (ec Qjg_w (ec Qjh_w (ec Qjb_w en)))) func396 fun av k h=>by
 unfold Qji at h;split at h
 ·apply xab h;clear h;intro a2 a3 a4 a5 h;apply xab h;clear h;intro a6 a7 h;exact km h
 ·exact h.elim
def Qjj:GM
 | [.one a0,.one a1,.one a2,.agg u0],k=>un 13 (fun a3 a4 a5 a6 a7 a8 a9 a10 a11 a12 a13 a14 a15 =>
  let F1:=xac .eql a3 a1 fun r13 =>
   xad r13
   (rt [.sc] [(.bool true)] k)
   (call Qft [.one a8,.one a2] fun o14 =>
   xac .gtr (atP o14 0) (I 0) fun r15 =>
   rt [.sc] [r15] k)
  let F0:=xac .sub a3 (I 1) fun r7 =>
   call Qji [.one a0,.one a1,.agg [a4,a5,a6,a7],.agg [a12,a13],.one r7] fun o8 =>
   unP .not (atP o8 0) fun r9 =>
   xad r9
   (rt [.sc] [(.bool false)] k)
   (call Qji [.one a0,.one a1,.agg [a8,a9,a10,a11],.agg [a14,a15],.one a3] fun o10 =>
   unP .not (atP o10 0) fun r11 =>
   xad r11
   (rt [.sc] [(.bool false)] k)
   (xac .eql a3 (I 0) fun r12 =>
   xad r12
   (F1)
   (call Qft [.one a4,.one a2] fun o16 =>
   xac .lss (atP o16 0) (I 0) fun r17 =>
   xad r17
   (F1)
   (rt [.sc] [(.bool false)] k))))
  call Qfl [.one a2] fun o0 =>
  unP .not (atP o0 0) fun r1 =>
  xad r1
   (rt [.sc] [(.bool false)] k)
   (call Qdw [.one a3,.one (I 0),.one a1] fun o2 =>
   unP .not (atP o2 0) fun r3 =>
   xad r3
    (rt [.sc] [(.bool false)] k)
    (xac .eql a1 (I 0) fun r4 =>
    xad r4
     (call Qgf [.one (.list 4 [])] fun o5 =>
     xac .neq a0 (atP o5 0) fun r6 =>
     xad r6
      (rt [.sc] [(.bool false)] k)
      (F0))
     (F0)))) u0
 | _,_=>False
theorem Qjj_w:EO ⟨[343],Qjj⟩:=oFz (ec Qfl_w (ec Qdw_w (ec Qgf_w (ec Qji_w (ec Qft_w en))))) func343 fun av k h=>by
 unfold Qjj at h;split at h
 ·apply xab h;clear h;(repeat intro _);rename_i h;exact km h
 ·exact h.elim
def Qjk:GM
 | [.agg u0,.one a16,.agg u1],k=>un 16 (fun a0 a1 a2 a3 a4 a5 a6 a7 a8 a9 a10 a11 a12 a13 a14 a15=>un 21 (fun a17 a18 a19 a20 a21 a22 a23 a24 a25 a26 a27 a28 a29 a30 a31 a32 a33 a34 a35 a36 a37 =>
  xad a18
   (xac .eql a19 a16 fun r0 =>
   xad r0
    (call Qjb [.one a6,.one a5,.agg [a19,a20,a21,a22],.agg [a23,a24]] fun o1 =>
    xad (atP o1 0)
     (call Qjf [.agg [a25,a26,a27,a28,a29,a30,a31,a32,a33,a34,a35,a36,a37],.agg [(I 0),(.str ⟨#[]⟩),(I 0),(I 0),(.list 1 []),(.str ⟨#[]⟩),(I 0),(I 0),(.list 1 []),(I 0),(.list 1 []),(I 0),(.list 1 [])]] fun o2 =>
     rt [.sc] [(atP o2 0)] k)
     (rt [.sc] [(.bool false)] k))
    (rt [.sc] [(.bool false)] k))
   (call Qjj [.one a6,.one a5,.one a16,.agg [a25,a26,a27,a28,a29,a30,a31,a32,a33,a34,a35,a36,a37]] fun o3 =>
   xad (atP o3 0)
    (call Qjg [.agg [a19,a20,a21,a22]] fun o4 =>
    xad (atP o4 0)
     (call Qjh [.agg [a23,a24]] fun o5 =>
     rt [.sc] [(atP o5 0)] k)
     (rt [.sc] [(.bool false)] k))
    (rt [.sc] [(.bool false)] k))) u1) u0
 | _,_=>False
theorem Qjk_w:EO ⟨[290],Qjk⟩:=oFz (ec Qjb_w (ec Qjf_w (ec Qjj_w (ec Qjg_w (ec Qjh_w en))))) func290 fun av k h=>by
 unfold Qjk at h;split at h
 ·apply xab h;clear h;(repeat intro _);rename_i h;apply xab h;clear h;(repeat intro _);rename_i h;exact km h
 ·exact h.elim
def Qjl:GM
 | [.one a0,.one a1,.agg u0,.one a23],k=>un 21 (fun a2 a3 a4 a5 a6 a7 a8 a9 a10 a11 a12 a13 a14 a15 a16 a17 a18 a19 a20 a21 a22 =>
  call Qiy [.one a2] fun o0 =>
  unP .not (atP o0 16) fun r1 =>
  xad r1
   (rt [.sc] [(I 3)] k)
   (xac .neq (atP o0 0) a0 fun r2 =>
   xad r2
    (rt [.sc] [(I 2)] k)
    (call Qiz [.agg [(atP o0 0),(atP o0 1),(atP o0 2),(atP o0 3),(atP o0 4),(atP o0 5),(atP o0 6),(atP o0 7),(atP o0 8),(atP o0 9),(atP o0 10),(atP o0 11),(atP o0 12),(atP o0 13),(atP o0 14),(atP o0 15)],.one a23] fun o3 =>
    unP .not (atP o3 0) fun r4 =>
    xad r4
     (rt [.sc] [(I 4)] k)
     (xad (atP o0 15)
      (rt [.sc] [(I 5)] k)
      (call Qjk [.agg [(atP o0 0),(atP o0 1),(atP o0 2),(atP o0 3),(atP o0 4),(atP o0 5),(atP o0 6),(atP o0 7),(atP o0 8),(atP o0 9),(atP o0 10),(atP o0 11),(atP o0 12),(atP o0 13),(atP o0 14),(atP o0 15)],.one a1,.agg [a2,a3,a4,a5,a6,a7,a8,a9,a10,a11,a12,a13,a14,a15,a16,a17,a18,a19,a20,a21,a22]] fun o5 =>
      unP .not (atP o5 0) fun r6 =>
      xad r6
       (rt [.sc] [(I 6)] k)
       (rt [.sc] [(I 1)] k)))))) u0
 | _,_=>False
theorem Qjl_w:EO ⟨[230],Qjl⟩:=oFz (ec Qiy_w (ec Qiz_w (ec Qjk_w en))) func230 fun av k h=>by
 unfold Qjl at h;split at h
 ·apply xab h;clear h;(repeat intro _);rename_i h;exact km h
 ·exact h.elim
def Qjm:GM
 | [.one a0,.ro (.cells u0)],k=>un 1 (fun a1 =>
  xaH a0 fun r0 =>
  xac .gtr r0 (I 0) fun r1 =>
  xad r1
   (xaj 17 a0 (I 0) fun c2 =>
   xac .eql (atP c2 0) a1 fun r3 =>
   rt [.sc] [r3] k)
   (rt [.sc] [(.bool false)] k)) u0
 | _,_=>False
theorem Qjm_w:EO ⟨[387],Qjm⟩:=oFz en func387 fun av k h=>by
 unfold Qjm at h;split at h
 ·apply xab h;clear h;intro a1 h;exact km h
 ·exact h.elim
def Qjn_r0 (v:List PV) (K:List PV→Prop) (x0k:PV→Prop) (x1k:Cur 5):Prop :=
 un 5 (fun v0 v1 v2 v3 v4 =>
  xac .lss v4 v3 fun r0 =>
  xad r0
   (xaj 1 v0 v4 fun c1 =>
   call Qjm [.one (atP c1 0),.ro (.cells [v1])] fun o2 =>
   xad (atP o2 0)
    (x0k v4)
    (xac .add v4 (I 1) fun r3 =>
    K [v0,v1,v2,v3,r3]))
   (x1k v0 v1 v2 v3 v4)) v
def Qjn:GM
 | [.one a0,.fn 387 [.cells u0]],k=>un 1 (fun a1 =>
  xaH a0 fun r0 =>
  lp (fun L w=>Qjn_r0 w L
   (fun q4=>rt [.sc] [q4] k)
   (fun q5 q6 q7 q8 q9=>rt [.sc] [(I (-1))] k)) [a0,a1,(I 0),r0,(I 0)]) u0
 | _,_=>False
def Qjn_l:List LE:=[⟨none,0,⟨[(0,.one zB),(1,.one (.fn 387 [.ro (.cells [(.bool false)])])),(4,.one zB),(7,.one zB),(8,.one zB)],[],[],0,19,[]⟩,fun K k v=>Qjn_r0 v K (fun x0=>k .ret ⟨[(4,.one (.pv x0))],[],[],1,19,[]⟩) (fun x0 x1 x2 x3 x4=>k (.exit 0) ⟨[(0,.one (.pv x0)),(1,.one (.fn 387 [.ro (.cells [x1])])),(4,.one (.pv x2)),(7,.one (.pv x3)),(8,.one (.pv x4))],[],[],0,19,[]⟩)⟩]
theorem Qjn_s:xaC [⟨[387],Qjm⟩] TT (kk [0,1,4,7,8]) Qjn_l f386 Qjn_l:=⟨fun v K k h=>by
 apply xab h;exact fun v0 v1 v2 v3 v4 h=>km h
 ,trivial⟩
theorem Qjn_w:EO ⟨[386,387],Qjn⟩:=oN (ec Qjm_w en) (keep:=(kk [0,1,4,7,8])) (l:=Qjn_l) func386 Qjn_s fun av k h=>by
 unfold Qjn at h;split at h
 ·apply xab h;clear h;intro a1 h;exact km h
 ·exact h.elim
def Qjo:GM
 | [.agg u0,.one a2],k=>un 2 (fun a0 a1 =>
  call Qjn [.one a0,.fn 387 [.cells [a2]]] fun o0 =>
  rt [.sc] [(atP o0 0)] k) u0
 | _,_=>False
theorem Qjo_w:EO ⟨[335],Qjo⟩:=oFz (ec Qjn_w en) func335 fun av k h=>by
 unfold Qjo at h;split at h
 ·apply xab h;clear h;intro a0 a1 h;exact km h
 ·exact h.elim
def Qjp:GM
 | [.agg u0,.agg u1],k=>un 16 (fun a0 a1 a2 a3 a4 a5 a6 a7 a8 a9 a10 a11 a12 a13 a14 a15=>un 16 (fun a16 a17 a18 a19 a20 a21 a22 a23 a24 a25 a26 a27 a28 a29 a30 a31 =>
  call Qfc [.agg [a8,a9],.agg [a24,a25]] fun o0 =>
  xad (atP o0 0)
   (call Qfc [.agg [a10,a11],.agg [a26,a27]] fun o1 =>
   xad (atP o1 0)
    (call Qfc [.agg [a13,a14],.agg [a29,a30]] fun o2 =>
    xad (atP o2 0)
     (call Qen [.agg [a0,a1,a2,a3,a4,a5,a6,a7,a8,a9,a10,a11,a12,a13,a14,a15]] fun o3 =>
     call Qen [.agg [a16,a17,a18,a19,a20,a21,a22,a23,a24,a25,a26,a27,a28,a29,a30,a31]] fun o4 =>
     call Qfb [.one (atP o3 0),.one (atP o4 0)] fun o5 =>
     rt [.sc] [(atP o5 0)] k)
     (rt [.sc] [(.bool false)] k))
    (rt [.sc] [(.bool false)] k))
   (rt [.sc] [(.bool false)] k)) u1) u0
 | _,_=>False
theorem Qjp_w:EO ⟨[388],Qjp⟩:=oFz (ec Qfc_w (ec Qen_w (ec Qfb_w en))) func388 fun av k h=>by
 unfold Qjp at h;split at h
 ·apply xab h;clear h;(repeat intro _);rename_i h;apply xab h;clear h;(repeat intro _);rename_i h;exact km h
 ·exact h.elim
def Qjq_r0 (v:List PV) (K:List PV→Prop) (x0k:Prop) (x1k:Cur 5):Prop :=
 un 5 (fun v0 v1 v2 v3 v4 =>
  xac .lss v4 v3 fun r0 =>
  xad r0
   (xaj 17 v2 v4 fun c1 =>
   xaj 17 v0 v4 fun c2 =>
   call Qjp [.agg (s16 c1),.agg (s16 c2)] fun o3 =>
   unP .not (atP o3 0) fun r4 =>
   xad r4
    (x0k)
    (xac .add v4 (I 1) fun r5 =>
    K [v0,v1,v2,v3,r5]))
   (x1k v0 v1 v2 v3 v4)) v
def Qjq:GM
 | [.one a0,.one a1],k =>
  xaH a0 fun r0 =>
  xaH a1 fun r1 =>
  xac .gtr r0 r1 fun r2 =>
  xad r2
   (rt [.sc] [(.bool false)] k)
   (xaH a0 fun r3 =>
   lp (fun L w=>Qjq_r0 w L
    (rt [.sc] [(.bool false)] k)
    (fun q6 q7 q8 q9 q10=>rt [.sc] [(.bool true)] k)) [a1,(.bool false),a0,r3,(I 0)])
 | _,_=>False
def Qjq_l:List LE:=[⟨none,0,⟨[(1,.one zB),(4,.one zB),(12,.one zB),(13,.one zB),(14,.one zB)],[],[],0,29,[]⟩,fun K k v=>Qjq_r0 v K (k .ret ⟨[(4,.one (.kb false))],[],[],2,29,[]⟩) (fun x0 x1 x2 x3 x4=>k (.exit 0) ⟨[(1,.one (.pv x0)),(4,.one (.pv x1)),(12,.one (.pv x2)),(13,.one (.pv x3)),(14,.one (.pv x4))],[],[],0,29,[]⟩)⟩]
theorem Qjq_s:xaC [⟨[388],Qjp⟩] TT.nofl (kk [1,4,12,13,14,999999]) Qjq_l f385 Qjq_l:=⟨fun v K k h=>by
 apply xab h;exact fun v0 v1 v2 v3 v4 h=>km h
 ,trivial⟩
theorem Qjq_w:EO ⟨[385],Qjq⟩:=oF (ec Qjp_w en) (keep:=(kk [1,4,12,13,14,999999])) (l:=Qjq_l) func385 Qjq_s fun av k h=>by
 unfold Qjq at h;split at h
 ·exact km h
 ·exact h.elim
def Qjr:GM
 | [.agg u0,.one a2],k=>un 2 (fun a0 a1 =>
  call Qfj [.one a2] fun o0 =>
  unP .not (atP o0 0) fun r1 =>
  xad r1
   (rt [.sc] [(I 6)] k)
   (xaj 17 a2 (I 0) fun c2 =>
   call Qjo [.agg [a0,a1],.one (atP c2 0)] fun o3 =>
   xac .lss (atP o3 0) (I 0) fun r4 =>
   xad r4
    (rt [.sc] [(I 1)] k)
    (xaj 1 a0 (atP o3 0) fun c5 =>
    call Qjq [.one (atP c5 0),.one a2] fun o6 =>
    xaj 1 a0 (atP o3 0) fun c7 =>
    call Qjq [.one a2,.one (atP c7 0)] fun o8 =>
    xad (atP o6 0)
     (xad (atP o8 0)
      (rt [.sc] [(I 2)] k)
      (xad (atP o6 0)
       (rt [.sc] [(I 3)] k)
       (xad (atP o8 0)
        (rt [.sc] [(I 4)] k)
        (rt [.sc] [(I 5)] k))))
     (xad (atP o6 0)
      (rt [.sc] [(I 3)] k)
      (xad (atP o8 0)
       (rt [.sc] [(I 4)] k)
       (rt [.sc] [(I 5)] k)))))) u0
 | _,_=>False
theorem Qjr_w:EO ⟨[334],Qjr⟩:=oFz (ec Qfj_w (ec Qjo_w (ec Qjq_w en))) func334 fun av k h=>by
 unfold Qjr at h;split at h
 ·apply xab h;clear h;intro a0 a1 h;exact km h
 ·exact h.elim
def Qjs_r0 (v:List PV) (K:List PV→Prop) (x0k:Cur 55):Prop :=
 un 55 (fun v0 v1 v2 v3 v4 v5 v6 v7 v8 v9 v10 v11 v12 v13 v14 v15 v16 v17 v18 v19 v20 v21 v22 v23 v24 v25 v26 v27 v28 v29 v30 v31 v32 v33 v34 v35 v36 v37 v38 v39 v40 v41 v42 v43 v44 v45 v46 v47 v48 v49 v50 v51 v52 v53 v54 =>
  xaj 17 v0 v3 fun c0 =>
  xaj 17 v1 v3 fun c1 =>
  call Qjp [.agg [(atP c0 0),(atP c0 1),(atP c0 2),(atP c0 3),(atP c0 4),(atP c0 5),(atP c0 6),(atP c0 7),(atP c0 8),(atP c0 9),(atP c0 10),(atP c0 11),(atP c0 12),(atP c0 13),(atP c0 14),(atP c0 15)],.agg [(atP c1 0),(atP c1 1),(atP c1 2),(atP c1 3),(atP c1 4),(atP c1 5),(atP c1 6),(atP c1 7),(atP c1 8),(atP c1 9),(atP c1 10),(atP c1 11),(atP c1 12),(atP c1 13),(atP c1 14),(atP c1 15)]] fun o2 =>
  xad (atP o2 0)
   (xac .add v3 (I 1) fun r3 =>
   K [v0,v1,v2,r3,v4,v5,v6,v7,v8,v9,v10,v11,v12,v13,v14,v15,v16,v17,v18,v19,v20,v21,v22,v23,v24,v25,v26,v27,v28,v29,v30,v31,v32,v33,v34,v35,v36,v37,v38,v39,v40,v41,v42,v43,v44,v45,v46,v47,v48,v49,v50,v51,v52,v53,v54])
   (x0k v0 v1 v2 v3 v4 v5 v6 v7 v8 v9 v10 v11 v12 v13 v14 v15 v16 v17 v18 v19 v20 v21 v22 v23 v24 v25 v26 v27 v28 v29 v30 v31 v32 v33 v34 v35 v36 v37 v38 v39 v40 v41 v42 v43 v44 v45 v46 v47 v48 v49 v50 v51 v52 v53 v54)) v
def Qjs:GM
 | [.one a0,.one a1],k =>
  call Qfj [.one a0] fun o0 =>
  unP .not (atP o0 0) fun r1 =>
  xad r1
   (rt g7 [(I 0),(I 0),(I 0),(I 0),(I 0),(I 0),(I 0),(I 0),(.list 1 []),(I 0),(.list 1 []),(I 0),(I 0),(.list 1 []),(I 0),(.bool false),(.list 2 []),(I 0),(I 0),(I 0),(I 0),(I 0),(I 0),(I 0),(I 0),(.list 1 []),(I 0),(.list 1 []),(I 0),(I 0),(.list 1 []),(I 0),(.bool false),(.list 2 []),(I 0),(I 0),(I 0),(I 0),(I 0),(I 0),(I 0),(I 0),(.list 1 []),(I 0),(.list 1 []),(I 0),(I 0),(.list 1 []),(I 0),(.bool false),(.list 2 []),(.bool false)] k)
   (call Qfj [.one a1] fun o2 =>
   unP .not (atP o2 0) fun r3 =>
   xad r3
    (rt g7 [(I 0),(I 0),(I 0),(I 0),(I 0),(I 0),(I 0),(I 0),(.list 1 []),(I 0),(.list 1 []),(I 0),(I 0),(.list 1 []),(I 0),(.bool false),(.list 2 []),(I 0),(I 0),(I 0),(I 0),(I 0),(I 0),(I 0),(I 0),(.list 1 []),(I 0),(.list 1 []),(I 0),(I 0),(.list 1 []),(I 0),(.bool false),(.list 2 []),(I 0),(I 0),(I 0),(I 0),(I 0),(I 0),(I 0),(I 0),(.list 1 []),(I 0),(.list 1 []),(I 0),(I 0),(.list 1 []),(I 0),(.bool false),(.list 2 []),(.bool false)] k)
    (xaj 17 a0 (I 0) fun c4 =>
    xaj 17 a1 (I 0) fun c5 =>
    xac .neq (atP c4 0) (atP c5 0) fun r6 =>
    xad r6
     (rt g7 [(I 0),(I 0),(I 0),(I 0),(I 0),(I 0),(I 0),(I 0),(.list 1 []),(I 0),(.list 1 []),(I 0),(I 0),(.list 1 []),(I 0),(.bool false),(.list 2 []),(I 0),(I 0),(I 0),(I 0),(I 0),(I 0),(I 0),(I 0),(.list 1 []),(I 0),(.list 1 []),(I 0),(I 0),(.list 1 []),(I 0),(.bool false),(.list 2 []),(I 0),(I 0),(I 0),(I 0),(I 0),(I 0),(I 0),(I 0),(.list 1 []),(I 0),(.list 1 []),(I 0),(I 0),(.list 1 []),(I 0),(.bool false),(.list 2 []),(.bool false)] k)
     (call Qjq [.one a0,.one a1] fun o7 =>
     xad (atP o7 0)
      (rt g7 [(I 0),(I 0),(I 0),(I 0),(I 0),(I 0),(I 0),(I 0),(.list 1 []),(I 0),(.list 1 []),(I 0),(I 0),(.list 1 []),(I 0),(.bool false),(.list 2 []),(I 0),(I 0),(I 0),(I 0),(I 0),(I 0),(I 0),(I 0),(.list 1 []),(I 0),(.list 1 []),(I 0),(I 0),(.list 1 []),(I 0),(.bool false),(.list 2 []),(I 0),(I 0),(I 0),(I 0),(I 0),(I 0),(I 0),(I 0),(.list 1 []),(I 0),(.list 1 []),(I 0),(I 0),(.list 1 []),(I 0),(.bool false),(.list 2 []),(.bool false)] k)
      (call Qjq [.one a1,.one a0] fun o8 =>
      xad (atP o8 0)
       (rt g7 [(I 0),(I 0),(I 0),(I 0),(I 0),(I 0),(I 0),(I 0),(.list 1 []),(I 0),(.list 1 []),(I 0),(I 0),(.list 1 []),(I 0),(.bool false),(.list 2 []),(I 0),(I 0),(I 0),(I 0),(I 0),(I 0),(I 0),(I 0),(.list 1 []),(I 0),(.list 1 []),(I 0),(I 0),(.list 1 []),(I 0),(.bool false),(.list 2 []),(I 0),(I 0),(I 0),(I 0),(I 0),(I 0),(I 0),(I 0),(.list 1 []),(I 0),(.list 1 []),(I 0),(I 0),(.list 1 []),(I 0),(.bool false),(.list 2 []),(.bool false)] k)
       (lp (fun L w=>Qjs_r0 w L
        (fun q9 q10 q11 q12 q13 q14 q15 q16 q17 q18 q19 q20 q21 q22 q23 q24 q25 q26 q27 q28 q29 q30 q31 q32 q33 q34 q35 q36 q37 q38 q39 q40 q41 q42 q43 q44 q45 q46 q47 q48 q49 q50 q51 q52 q53 q54 q55 q56 q57 q58 q59 q60 q61 q62 q63=>xaj 17 q9 q12 fun c64 =>
         call Qdl [.agg [(atP c64 0),(atP c64 1),(atP c64 2),(atP c64 3),(atP c64 4),(atP c64 5),(atP c64 6),(atP c64 7),(atP c64 8),(atP c64 9),(atP c64 10),(atP c64 11),(atP c64 12),(atP c64 13),(atP c64 14),(atP c64 15),(atP c64 16)]] fun o65 =>
         xaj 17 q10 q12 fun c66 =>
         call Qdl [.agg [(atP c66 0),(atP c66 1),(atP c66 2),(atP c66 3),(atP c66 4),(atP c66 5),(atP c66 6),(atP c66 7),(atP c66 8),(atP c66 9),(atP c66 10),(atP c66 11),(atP c66 12),(atP c66 13),(atP c66 14),(atP c66 15),(atP c66 16)]] fun o67 =>
         xac .gtr q12 (I 0) fun r68 =>
         xad r68
          (xac .sub q12 (I 1) fun r69 =>
          xaj 17 q9 r69 fun c70 =>
          call Qdl [.agg [(atP c70 0),(atP c70 1),(atP c70 2),(atP c70 3),(atP c70 4),(atP c70 5),(atP c70 6),(atP c70 7),(atP c70 8),(atP c70 9),(atP c70 10),(atP c70 11),(atP c70 12),(atP c70 13),(atP c70 14),(atP c70 15),(atP c70 16)]] fun o71 =>
          rt g7 [(atP o71 0),(atP o71 1),(atP o71 2),(atP o71 3),(atP o71 4),(atP o71 5),(atP o71 6),(atP o71 7),(atP o71 8),(atP o71 9),(atP o71 10),(atP o71 11),(atP o71 12),(atP o71 13),(atP o71 14),(atP o71 15),(atP o71 16),(atP o65 0),(atP o65 1),(atP o65 2),(atP o65 3),(atP o65 4),(atP o65 5),(atP o65 6),(atP o65 7),(atP o65 8),(atP o65 9),(atP o65 10),(atP o65 11),(atP o65 12),(atP o65 13),(atP o65 14),(atP o65 15),(atP o65 16),(atP o67 0),(atP o67 1),(atP o67 2),(atP o67 3),(atP o67 4),(atP o67 5),(atP o67 6),(atP o67 7),(atP o67 8),(atP o67 9),(atP o67 10),(atP o67 11),(atP o67 12),(atP o67 13),(atP o67 14),(atP o67 15),(atP o67 16),(.bool true)] k)
          (rt g7 [(I 0),(I 0),(I 0),(I 0),(I 0),(I 0),(I 0),(I 0),(.list 1 []),(I 0),(.list 1 []),(I 0),(I 0),(.list 1 []),(I 0),(.bool false),(.list 2 []),(atP o65 0),(atP o65 1),(atP o65 2),(atP o65 3),(atP o65 4),(atP o65 5),(atP o65 6),(atP o65 7),(atP o65 8),(atP o65 9),(atP o65 10),(atP o65 11),(atP o65 12),(atP o65 13),(atP o65 14),(atP o65 15),(atP o65 16),(atP o67 0),(atP o67 1),(atP o67 2),(atP o67 3),(atP o67 4),(atP o67 5),(atP o67 6),(atP o67 7),(atP o67 8),(atP o67 9),(atP o67 10),(atP o67 11),(atP o67 12),(atP o67 13),(atP o67 14),(atP o67 15),(atP o67 16),(.bool true)] k))) [a0,a1,(.bool false),(I 0),(I 0),(I 0),(I 0),(I 0),(I 0),(I 0),(I 0),(I 0),(I 0),(I 0),(I 0),(I 0),(.bool false),(I 0),(I 0),(I 0),(I 0),(I 0),(I 0),(I 0),(I 0),(I 0),(I 0),(I 0),(I 0),(.bool false),(I 0),(I 0),(I 0),(I 0),(I 0),(I 0),(I 0),(I 0),(I 0),(I 0),(I 0),(I 0),(.bool false),(.list 2 []),(.list 1 []),(.list 1 []),(.list 1 []),(.list 2 []),(.list 1 []),(.list 1 []),(.list 1 []),(.list 2 []),(.list 1 []),(.list 1 []),(.list 1 [])])))))
 | _,_=>False
def Qjs_l:List LE:=[⟨none,0,⟨[(0,.one zB),(1,.one zB),(4,.one (.ptr 0 0)),(5,.one zB),(6,.one zB)],[(0,[zB,zB,zB,zB,zB,zB,zB,zB,.own 5,zB,.own 6,zB,zB,.own 7,zB,zB,.own 8,zB,zB,zB,zB,zB,zB,zB,zB,.own 9,zB,.own 10,zB,zB,.own 11,zB,zB,.own 12,zB,zB,zB,zB,zB,zB,zB,zB,.own 13,zB,.own 14,zB,zB,.own 15,zB,zB,.own 16])],[(16,⟨.deep,317,2,(.bool false)⟩),(15,⟨.deep,3,1,(.bool false)⟩),(14,⟨.deep,3,1,(.bool false)⟩),(13,⟨.deep,3,1,(.bool false)⟩),(12,⟨.deep,317,2,(.bool false)⟩),(11,⟨.deep,3,1,(.bool false)⟩),(10,⟨.deep,3,1,(.bool false)⟩),(9,⟨.deep,3,1,(.bool false)⟩),(8,⟨.deep,317,2,(.bool false)⟩),(7,⟨.deep,3,1,(.bool false)⟩),(6,⟨.deep,3,1,(.bool false)⟩),(5,⟨.deep,3,1,(.bool false)⟩)],17,74,[]⟩,fun K k v=>Qjs_r0 v K (fun x0 x1 x2 x3 x4 x5 x6 x7 x8 x9 x10 x11 x12 x13 x14 x15 x16 x17 x18 x19 x20 x21 x22 x23 x24 x25 x26 x27 x28 x29 x30 x31 x32 x33 x34 x35 x36 x37 x38 x39 x40 x41 x42 x43 x44 x45 x46 x47 x48 x49 x50 x51 x52 x53 x54=>k (.exit 0) ⟨[(0,.one (.pv x0)),(1,.one (.pv x1)),(4,.one (.ptr 0 0)),(5,.one (.pv x2)),(6,.one (.pv x3))],[(0,[.pv x4,.pv x5,.pv x6,.pv x7,.pv x8,.pv x9,.pv x10,.pv x11,.own 5,.pv x12,.own 6,.pv x13,.pv x14,.own 7,.pv x15,.pv x16,.own 8,.pv x17,.pv x18,.pv x19,.pv x20,.pv x21,.pv x22,.pv x23,.pv x24,.own 9,.pv x25,.own 10,.pv x26,.pv x27,.own 11,.pv x28,.pv x29,.own 12,.pv x30,.pv x31,.pv x32,.pv x33,.pv x34,.pv x35,.pv x36,.pv x37,.own 13,.pv x38,.own 14,.pv x39,.pv x40,.own 15,.pv x41,.pv x42,.own 16])],[(16,⟨.deep,317,2,x43⟩),(15,⟨.deep,3,1,x44⟩),(14,⟨.deep,3,1,x45⟩),(13,⟨.deep,3,1,x46⟩),(12,⟨.deep,317,2,x47⟩),(11,⟨.deep,3,1,x48⟩),(10,⟨.deep,3,1,x49⟩),(9,⟨.deep,3,1,x50⟩),(8,⟨.deep,317,2,x51⟩),(7,⟨.deep,3,1,x52⟩),(6,⟨.deep,3,1,x53⟩),(5,⟨.deep,3,1,x54⟩)],18,74,[]⟩)⟩]
theorem Qjs_s:xaC [⟨[267],Qfj⟩,⟨[385],Qjq⟩,⟨[388],Qjp⟩,⟨[305],Qdl⟩] TT.nofl (kk [0,1,4,5,6,999999]) Qjs_l f336 Qjs_l:=⟨fun v K k h=>by
 apply xab h;(repeat intro _);rename_i h;exact km h
 ,trivial⟩
theorem Qjs_w:EO ⟨[336],Qjs⟩:=oF (ec Qfj_w (ec Qjq_w (ec Qjp_w (ec Qdl_w en)))) (keep:=(kk [0,1,4,5,6,999999])) (l:=Qjs_l) func336 Qjs_s fun av k h=>by
 unfold Qjs at h;split at h
 ·exact km h
 ·exact h.elim
def Qjt:GM
 | [.agg u0,.one a2],k=>un 2 (fun a0 a1 =>
  call Qdq [.agg [a0,a1]] fun o0 =>
  call Qjr [.agg [a0,a1],.one a2] fun o1 =>
  xac .eql (atP o1 0) (I 1) fun r2 =>
  xad r2
   (xaH a0 fun r3 =>
   xac .geq r3 (I 8) fun r4 =>
   xad r4
    (rt [.own true 90 1,.own true 259 51,.sc] [(atP o0 0),(atP o0 1),(I 6)] k)
    (call Qdm [.one a2] fun o5 =>
    (1=1)∧(1≤16777216)∧(1=1)∧(0=0)∧(1=1)∧(xae [.nil 257 17] [.own 6])∧xbd 1 (atP o0 0) (.list 1 [[(atP o5 0)]]) fun r6 =>
    rt [.own true 90 1,.own true 259 51,.sc] [r6,(atP o0 1),(atP o1 0)] k))
   (xac .eql (atP o1 0) (I 3) fun r7 =>
   xad r7
    (xaj 17 a2 (I 0) fun c8 =>
    call Qjo [.agg [a0,a1],.one (atP c8 0)] fun o9 =>
    call Qdm [.one a2] fun o10 =>
    xdm 1 (atP o0 0) (atP o9 0) fun n11 =>
    (xae [.nil 257 17] [.own 7])∧xmu (atP o0 0) n11 0 [(atP o10 0)] fun r12 =>
    rt [.own true 90 1,.own true 259 51,.sc] [r12,(atP o0 1),(atP o1 0)] k)
    (xac .eql (atP o1 0) (I 5) fun r13 =>
    xad r13
     (xaj 17 a2 (I 0) fun c14 =>
     call Qjo [.agg [a0,a1],.one (atP c14 0)] fun o15 =>
     xaj 1 a0 (atP o15 0) fun c16 =>
     call Qjs [.one (atP c16 0),.one a2] fun o17 =>
     xad (atP o17 51)
      (xaH a1 fun r18 =>
      xac .lss r18 (I 8) fun r19 =>
      xad r19
       ((1=1)∧(51≤16777216)∧(51=51)∧(0=0)∧(51=51)∧(xae [.pv (I 0),.pv (I 0),.pv (I 0),.pv (I 0),.pv (I 0),.pv (I 0),.pv (I 0),.pv (I 0),.nil 3 1,.pv (I 0),.nil 3 1,.pv (I 0),.pv (I 0),.nil 3 1,.pv (I 0),zB,.nil 317 2,.pv (I 0),.pv (I 0),.pv (I 0),.pv (I 0),.pv (I 0),.pv (I 0),.pv (I 0),.pv (I 0),.nil 3 1,.pv (I 0),.nil 3 1,.pv (I 0),.pv (I 0),.nil 3 1,.pv (I 0),zB,.nil 317 2,.pv (I 0),.pv (I 0),.pv (I 0),.pv (I 0),.pv (I 0),.pv (I 0),.pv (I 0),.pv (I 0),.nil 3 1,.pv (I 0),.nil 3 1,.pv (I 0),.pv (I 0),.nil 3 1,.pv (I 0),zB,.nil 317 2] [.pv (atP o17 0),.pv (atP o17 1),.pv (atP o17 2),.pv (atP o17 3),.pv (atP o17 4),.pv (atP o17 5),.pv (atP o17 6),.pv (atP o17 7),.own 15,.pv (atP o17 9),.own 17,.pv (atP o17 11),.pv (atP o17 12),.own 20,.pv (atP o17 14),.pv (atP o17 15),.own 23,.pv (atP o17 17),.pv (atP o17 18),.pv (atP o17 19),.pv (atP o17 20),.pv (atP o17 21),.pv (atP o17 22),.pv (atP o17 23),.pv (atP o17 24),.own 32,.pv (atP o17 26),.own 34,.pv (atP o17 28),.pv (atP o17 29),.own 37,.pv (atP o17 31),.pv (atP o17 32),.own 40,.pv (atP o17 34),.pv (atP o17 35),.pv (atP o17 36),.pv (atP o17 37),.pv (atP o17 38),.pv (atP o17 39),.pv (atP o17 40),.pv (atP o17 41),.own 49,.pv (atP o17 43),.own 51,.pv (atP o17 45),.pv (atP o17 46),.own 54,.pv (atP o17 48),.pv (atP o17 49),.own 57])∧xbd 51 (atP o0 1) (.list 51 [(s51 o17)]) fun r20 =>
       rt [.own true 90 1,.own true 259 51,.sc] [(atP o0 0),r20,(atP o1 0)] k)
       (rt [.own true 90 1,.own true 259 51,.sc] [(atP o0 0),(atP o0 1),(atP o1 0)] k))
      (rt [.own true 90 1,.own true 259 51,.sc] [(atP o0 0),(atP o0 1),(atP o1 0)] k))
     (rt [.own true 90 1,.own true 259 51,.sc] [(atP o0 0),(atP o0 1),(atP o1 0)] k)))) u0
 | _,_=>False
theorem Qjt_w:EO ⟨[286],Qjt⟩:=oFz (ec Qdq_w (ec Qjr_w (ec Qdm_w (ec Qjo_w (ec Qjs_w en))))) func286 fun av k h=>by
 unfold Qjt at h;split at h
 ·apply xab h;clear h;intro a0 a1 h;exact km h
 ·exact h.elim
def Qju_r0 (v:List PV) (K:List PV→Prop) (x0k:Prop) (x1k:Cur 5):Prop :=
 un 5 (fun v0 v1 v2 v3 v4 =>
  xac .lss v4 v3 fun r0 =>
  xad r0
   (xaj 2 v0 v4 fun c1 =>
   xaj 2 v1 v4 fun c2 =>
   (xeh [.pv (I 0),.pv (I 0)] [(atP c1 0),(atP c1 1)])∧(xeh [.pv (I 0),.pv (I 0)] [(atP c2 0),(atP c2 1)])∧xsc .neq [(atP c1 0),(atP c1 1)] [(atP c2 0),(atP c2 1)] fun r3 =>
   xad r3
    (x0k)
    (xac .add v4 (I 1) fun r4 =>
    K [v0,v1,v2,v3,r4]))
   (x1k v0 v1 v2 v3 v4)) v
def Qju:GM
 | [.one a0,.one a1],k =>
  xaH a0 fun r0 =>
  xaH a1 fun r1 =>
  xac .neq r0 r1 fun r2 =>
  xad r2
   (rt [.sc] [(.bool false)] k)
   (xaH a0 fun r3 =>
   lp (fun L w=>Qju_r0 w L
    (rt [.sc] [(.bool false)] k)
    (fun q5 q6 q7 q8 q9=>rt [.sc] [(.bool true)] k)) [a0,a1,(.bool false),r3,(I 0)])
 | _,_=>False
def Qju_l:List LE:=[⟨none,0,⟨[(0,.one zB),(1,.one zB),(4,.one zB),(12,.one zB),(13,.one zB)],[],[],0,26,[]⟩,fun K k v=>Qju_r0 v K (k .ret ⟨[(4,.one (.kb false))],[],[],0,26,[]⟩) (fun x0 x1 x2 x3 x4=>k (.exit 0) ⟨[(0,.one (.pv x0)),(1,.one (.pv x1)),(4,.one (.pv x2)),(12,.one (.pv x3)),(13,.one (.pv x4))],[],[],0,26,[]⟩)⟩]
theorem Qju_s:xaC [] TT (kk [0,1,4,12,13]) Qju_l f429 Qju_l:=⟨fun v K k h=>by
 apply xab h;exact fun v0 v1 v2 v3 v4 h=>km h
 ,trivial⟩
theorem Qju_w:EO ⟨[429],Qju⟩:=oN en (keep:=(kk [0,1,4,12,13])) (l:=Qju_l) func429 Qju_s fun av k h=>by
 unfold Qju at h;split at h
 ·exact km h
 ·exact h.elim
def Qjv:GM
 | [.agg u0,.agg u1],k=>un 17 (fun a0 a1 a2 a3 a4 a5 a6 a7 a8 a9 a10 a11 a12 a13 a14 a15 a16=>un 17 (fun a17 a18 a19 a20 a21 a22 a23 a24 a25 a26 a27 a28 a29 a30 a31 a32 a33 =>
  call Qjp [.agg [a0,a1,a2,a3,a4,a5,a6,a7,a8,a9,a10,a11,a12,a13,a14,a15],.agg [a17,a18,a19,a20,a21,a22,a23,a24,a25,a26,a27,a28,a29,a30,a31,a32]] fun o0 =>
  xad (atP o0 0)
   (call Qju [.one a16,.one a33] fun o1 =>
   rt [.sc] [(atP o1 0)] k)
   (rt [.sc] [(.bool false)] k)) u1) u0
 | _,_=>False
theorem Qjv_w:EO ⟨[421],Qjv⟩:=oFz (ec Qjp_w (ec Qju_w en)) func421 fun av k h=>by
 unfold Qjv at h;split at h
 ·apply xab h;clear h;(repeat intro _);rename_i h;apply xab h;clear h;(repeat intro _);rename_i h;exact km h
 ·exact h.elim
def Qjw:GM
 | [.agg u0],k=>un 51 (fun a0 a1 a2 a3 a4 a5 a6 a7 a8 a9 a10 a11 a12 a13 a14 a15 a16 a17 a18 a19 a20 a21 a22 a23 a24 a25 a26 a27 a28 a29 a30 a31 a32 a33 a34 a35 a36 a37 a38 a39 a40 a41 a42 a43 a44 a45 a46 a47 a48 a49 a50 =>
  call Qjp [.agg [a17,a18,a19,a20,a21,a22,a23,a24,a25,a26,a27,a28,a29,a30,a31,a32],.agg [a34,a35,a36,a37,a38,a39,a40,a41,a42,a43,a44,a45,a46,a47,a48,a49]] fun o0 =>
  xad (atP o0 0)
   (rt [.sc] [(.bool false)] k)
   (call Qjv [.agg [a0,a1,a2,a3,a4,a5,a6,a7,a8,a9,a10,a11,a12,a13,a14,a15,a16],.agg [(I 0),(I 0),(I 0),(I 0),(I 0),(I 0),(I 0),(I 0),(.list 1 []),(I 0),(.list 1 []),(I 0),(I 0),(.list 1 []),(I 0),(.bool false),(.list 2 [])]] fun o1 =>
   xad (atP o1 0)
    (call Qex [.agg [a17,a18,a19,a20,a21,a22,a23,a24,a25,a26,a27,a28,a29,a30,a31,a32,a33]] fun o2 =>
    xad (atP o2 0)
     (call Qex [.agg [a34,a35,a36,a37,a38,a39,a40,a41,a42,a43,a44,a45,a46,a47,a48,a49,a50]] fun o3 =>
     xad (atP o3 0)
      (xac .eql a17 a34 fun r4 =>
      rt [.sc] [r4] k)
      (rt [.sc] [(.bool false)] k))
     (rt [.sc] [(.bool false)] k))
    (call Qfh [.agg [a0,a1,a2,a3,a4,a5,a6,a7,a8,a9,a10,a11,a12,a13,a14,a15],.agg [a17,a18,a19,a20,a21,a22,a23,a24,a25,a26,a27,a28,a29,a30,a31,a32,a33]] fun o5 =>
    xad (atP o5 0)
     (call Qfh [.agg [a0,a1,a2,a3,a4,a5,a6,a7,a8,a9,a10,a11,a12,a13,a14,a15],.agg [a34,a35,a36,a37,a38,a39,a40,a41,a42,a43,a44,a45,a46,a47,a48,a49,a50]] fun o6 =>
     rt [.sc] [(atP o6 0)] k)
     (rt [.sc] [(.bool false)] k)))) u0
 | _,_=>False
theorem Qjw_w:EO ⟨[390],Qjw⟩:=oFz (ec Qjp_w (ec Qjv_w (ec Qex_w (ec Qfh_w en)))) func390 fun av k h=>by
 unfold Qjw at h;split at h
 ·apply xab h;clear h;(repeat intro _);rename_i h;exact km h
 ·exact h.elim
def Qjx:GM
 | [.agg u0],k=>un 51 (fun a0 a1 a2 a3 a4 a5 a6 a7 a8 a9 a10 a11 a12 a13 a14 a15 a16 a17 a18 a19 a20 a21 a22 a23 a24 a25 a26 a27 a28 a29 a30 a31 a32 a33 a34 a35 a36 a37 a38 a39 a40 a41 a42 a43 a44 a45 a46 a47 a48 a49 a50 =>
  call Qjw [.agg [a0,a1,a2,a3,a4,a5,a6,a7,a8,a9,a10,a11,a12,a13,a14,a15,a16,a17,a18,a19,a20,a21,a22,a23,a24,a25,a26,a27,a28,a29,a30,a31,a32,a33,a34,a35,a36,a37,a38,a39,a40,a41,a42,a43,a44,a45,a46,a47,a48,a49,a50]] fun o0 =>
  unP .not (atP o0 0) fun r1 =>
  xad r1
   (rt [.sc] [(I (-1))] k)
   (rt [.sc] [a17] k)) u0
 | _,_=>False
theorem Qjx_w:EO ⟨[339],Qjx⟩:=oFz (ec Qjw_w en) func339 fun av k h=>by
 unfold Qjx at h;split at h
 ·apply xab h;clear h;(repeat intro _);rename_i h;exact km h
 ·exact h.elim
def Qjy:GM
 | [.agg u0,.ro (.cells u1)],k=>un 51 (fun a0 a1 a2 a3 a4 a5 a6 a7 a8 a9 a10 a11 a12 a13 a14 a15 a16 a17 a18 a19 a20 a21 a22 a23 a24 a25 a26 a27 a28 a29 a30 a31 a32 a33 a34 a35 a36 a37 a38 a39 a40 a41 a42 a43 a44 a45 a46 a47 a48 a49 a50=>un 1 (fun a51 =>
  call Qjx [.agg [a0,a1,a2,a3,a4,a5,a6,a7,a8,a9,a10,a11,a12,a13,a14,a15,a16,a17,a18,a19,a20,a21,a22,a23,a24,a25,a26,a27,a28,a29,a30,a31,a32,a33,a34,a35,a36,a37,a38,a39,a40,a41,a42,a43,a44,a45,a46,a47,a48,a49,a50]] fun o0 =>
  xac .eql (atP o0 0) a51 fun r1 =>
  rt [.sc] [r1] k) u1) u0
 | _,_=>False
theorem Qjy_w:EO ⟨[338],Qjy⟩:=oFz (ec Qjx_w en) func338 fun av k h=>by
 unfold Qjy at h;split at h
 ·apply xab h;clear h;(repeat intro _);rename_i h;apply xab h;clear h;intro a51 h;exact km h
 ·exact h.elim
def Qjz_r0 (v:List PV) (K:List PV→Prop) (x0k:PV→Prop) (x1k:Cur 5):Prop :=
 un 5 (fun v0 v1 v2 v3 v4 =>
  xac .lss v4 v3 fun r0 =>
  xad r0
   (xaj 51 v0 v4 fun c1 =>
   call Qjy [.agg [(atP c1 0),(atP c1 1),(atP c1 2),(atP c1 3),(atP c1 4),(atP c1 5),(atP c1 6),(atP c1 7),(atP c1 8),(atP c1 9),(atP c1 10),(atP c1 11),(atP c1 12),(atP c1 13),(atP c1 14),(atP c1 15),(atP c1 16),(atP c1 17),(atP c1 18),(atP c1 19),(atP c1 20),(atP c1 21),(atP c1 22),(atP c1 23),(atP c1 24),(atP c1 25),(atP c1 26),(atP c1 27),(atP c1 28),(atP c1 29),(atP c1 30),(atP c1 31),(atP c1 32),(atP c1 33),(atP c1 34),(atP c1 35),(atP c1 36),(atP c1 37),(atP c1 38),(atP c1 39),(atP c1 40),(atP c1 41),(atP c1 42),(atP c1 43),(atP c1 44),(atP c1 45),(atP c1 46),(atP c1 47),(atP c1 48),(atP c1 49),(atP c1 50)],.ro (.cells [v1])] fun o2 =>
   xad (atP o2 0)
    (x0k v4)
    (xac .add v4 (I 1) fun r3 =>
    K [v0,v1,v2,v3,r3]))
   (x1k v0 v1 v2 v3 v4)) v
def Qjz:GM
 | [.one a0,.fn 338 [.cells u0]],k=>un 1 (fun a1 =>
  xaH a0 fun r0 =>
  lp (fun L w=>Qjz_r0 w L
   (fun q4=>rt [.sc] [q4] k)
   (fun q5 q6 q7 q8 q9=>rt [.sc] [(I (-1))] k)) [a0,a1,(I 0),r0,(I 0)]) u0
 | _,_=>False
def Qjz_l:List LE:=[⟨none,0,⟨[(0,.one zB),(1,.one (.fn 338 [.ro (.cells [(.bool false)])])),(4,.one zB),(7,.one zB),(8,.one zB)],[],[],0,19,[]⟩,fun K k v=>Qjz_r0 v K (fun x0=>k .ret ⟨[(4,.one (.pv x0))],[],[],1,19,[]⟩) (fun x0 x1 x2 x3 x4=>k (.exit 0) ⟨[(0,.one (.pv x0)),(1,.one (.fn 338 [.ro (.cells [x1])])),(4,.one (.pv x2)),(7,.one (.pv x3)),(8,.one (.pv x4))],[],[],0,19,[]⟩)⟩]
theorem Qjz_s:xaC [⟨[338],Qjy⟩] TT (kk [0,1,4,7,8]) Qjz_l f389 Qjz_l:=⟨fun v K k h=>by
 apply xab h;exact fun v0 v1 v2 v3 v4 h=>km h
 ,trivial⟩
theorem Qjz_w:EO ⟨[389,338],Qjz⟩:=oN (ec Qjy_w en) (keep:=(kk [0,1,4,7,8])) (l:=Qjz_l) func389 Qjz_s fun av k h=>by
 unfold Qjz at h;split at h
 ·apply xab h;clear h;intro a1 h;exact km h
 ·exact h.elim
def Qka:GM
 | [.one a0,.fn 338 [.cells u0]],k=>un 1 (fun a1 =>
  call Qjz [.one a0,.fn 338 [.cells [a1]]] fun o0 =>
  xac .geq (atP o0 0) (I 0) fun r1 =>
  rt [.sc] [r1] k) u0
 | _,_=>False
theorem Qka_w:EO ⟨[337,338],Qka⟩:=oNz (ec Qjz_w en) func337 fun av k h=>by
 unfold Qka at h;split at h
 ·apply xab h;clear h;intro a1 h;exact km h
 ·exact h.elim
def Qkb:GM
 | [.agg u0,.one a2],k=>un 2 (fun a0 a1 =>
  xac .geq a2 (I 0) fun r0 =>
  xad r0
   (call Qka [.one a1,.fn 338 [.cells [a2]]] fun o1 =>
   rt [.sc] [(atP o1 0)] k)
   (rt [.sc] [(.bool false)] k)) u0
 | _,_=>False
theorem Qkb_w:EO ⟨[287],Qkb⟩:=oFz (ec Qka_w en) func287 fun av k h=>by
 unfold Qkb at h;split at h
 ·apply xab h;clear h;intro a0 a1 h;exact km h
 ·exact h.elim
def Qkc_r0 (v:List PV) (K:List PV→Prop) (x0k:Cur 18) (x1k:Cur 18) (x2k:Cur 18) (x3k:Cur 18) (x4k:Cur 25):Prop :=
 un 25 (fun v0 v1 v2 v3 v4 v5 v6 v7 v8 v9 v10 v11 v12 v13 v14 v15 v16 v17 v18 v19 v20 v21 v22 v23 v24 =>
  let F2:=fun (c1:List PV) (r38:PV)=>call Qdo [.agg [(atP c1 2),(atP c1 3),(atP c1 4),(atP c1 5)]] fun o40 =>
   ((((((x2k v6 (atP c1 1) (atP o40 0) (atP o40 1) (atP o40 2) v12 v13 v14 v15 v16 (atP o40 3) r38 v17 v18 v19 v20 v23 v24)∧True)∧True)∧True)∧True)∧True)∧((((((x2k v6 (atP c1 1) (atP o40 0) (atP o40 1) (atP o40 2) v12 v13 v14 v15 v16 (atP o40 3) r38 v17 v18 v19 v20 v23 v24)∧True)∧True)∧True)∧True)∧True)∧True
  let F6:=fun (o2:List PV) (c1:List PV)=>(1=1)∧(1≤16777216)∧(1=1)∧(0=0)∧(1=1)∧(xae [.pv (I 0)] [.pv (atP o2 0)])∧xbd 1 v21 (.list 1 [[(atP o2 0)]]) fun r42 =>
   xac .eql (atP o2 0) (I 1) fun r43 =>
   xad r43
   (F2 c1 r42)
   (xac .add v6 (I 1) fun r45 =>
   K [v0,v1,v2,v3,v4,v5,r45,v7,v8,v9,v10,v11,v12,v13,v14,v15,v16,v17,v18,v19,v20,r42,v22,v23,v24])
  let F5:=fun (c1:List PV) (r51:PV)=>call Qdo [.agg [(atP c1 2),(atP c1 3),(atP c1 4),(atP c1 5)]] fun o53 =>
   ((((((x3k v6 (atP c1 1) (atP o53 0) (atP o53 1) (atP o53 2) v12 v13 v14 v15 v16 (atP o53 3) r51 v17 v18 v19 v20 v23 v24)∧True)∧True)∧True)∧True)∧True)∧((((((x3k v6 (atP c1 1) (atP o53 0) (atP o53 1) (atP o53 2) v12 v13 v14 v15 v16 (atP o53 3) r51 v17 v18 v19 v20 v23 v24)∧True)∧True)∧True)∧True)∧True)∧True
  let F0:=fun (o2:List PV) (c1:List PV)=>call Qdw [.one (I 6),.one (I 1),.one (I 3)] fun o33 =>
   xad (atP o33 0)
   (call Qkb [.agg [v23,v24],.one v0] fun o34 =>
   unP .not (atP o34 0) fun r35 =>
   xac .eql (atP o2 0) (I 1) fun r36 =>
   xad r36
   (unP .not r35 fun r37 =>
   xad r37
   ((1=1)∧(1≤16777216)∧(1=1)∧(0=0)∧(1=1)∧(xae [.pv (I 0)] [.pv (I 3)])∧xbd 1 v21 (.list 1 [[(I 3)]]) fun r38 =>
   xac .eql (I 3) (I 1) fun r39 =>
   xad r39
   (F2 c1 r38)
   (xac .add v6 (I 1) fun r41 =>
   K [v0,v1,v2,v3,v4,v5,r41,v7,v8,v9,v10,v11,v12,v13,v14,v15,v16,v17,v18,v19,v20,r38,v22,v23,v24]))
   (F6 o2 c1))
   (F6 o2 c1))
   (xac .eql (atP o2 0) (I 1) fun r50 =>
   xad r50
   ((1=1)∧(1≤16777216)∧(1=1)∧(0=0)∧(1=1)∧(xae [.pv (I 0)] [.pv (I 3)])∧xbd 1 v21 (.list 1 [[(I 3)]]) fun r51 =>
   xac .eql (I 3) (I 1) fun r52 =>
   xad r52
   (F5 c1 r51)
   (xac .add v6 (I 1) fun r54 =>
   K [v0,v1,v2,v3,v4,v5,r54,v7,v8,v9,v10,v11,v12,v13,v14,v15,v16,v17,v18,v19,v20,r51,v22,v23,v24]))
   ((1=1)∧(1≤16777216)∧(1=1)∧(0=0)∧(1=1)∧(xae [.pv (I 0)] [.pv (atP o2 0)])∧xbd 1 v21 (.list 1 [[(atP o2 0)]]) fun r55 =>
   xac .eql (atP o2 0) (I 1) fun r56 =>
   xad r56
   (F5 c1 r55)
   (xac .add v6 (I 1) fun r58 =>
   K [v0,v1,v2,v3,v4,v5,r58,v7,v8,v9,v10,v11,v12,v13,v14,v15,v16,v17,v18,v19,v20,r55,v22,v23,v24])))
  let F1:=fun (c1:List PV) (r12:PV) (o6:List PV)=>call Qdo [.agg [(atP c1 2),(atP c1 3),(atP c1 4),(atP c1 5)]] fun o14 =>
   ((((((x0k v6 (atP c1 1) (atP o14 0) (atP o14 1) (atP o14 2) v12 v13 v14 v15 v16 (atP o14 3) r12 (atP o6 0) (atP o6 1) v17 v18 v19 v20)∧True)∧True)∧True)∧True)∧True)∧((((((x0k v6 (atP c1 1) (atP o14 0) (atP o14 1) (atP o14 2) v12 v13 v14 v15 v16 (atP o14 3) r12 (atP o6 0) (atP o6 1) v17 v18 v19 v20)∧True)∧True)∧True)∧True)∧True)∧True
  let F3:=fun (r12:PV) (o6:List PV)=>xac .add v6 (I 1) fun r15 =>
   K [v0,v1,v2,v3,v4,v5,r15,v7,v8,v9,v10,v11,v12,v13,v14,v15,v16,v17,v18,v19,v20,r12,v22,(atP o6 0),(atP o6 1)]
  let F4:=fun (c1:List PV) (r25:PV) (o6:List PV)=>call Qdo [.agg [(atP c1 2),(atP c1 3),(atP c1 4),(atP c1 5)]] fun o27 =>
   ((((((x1k v6 (atP c1 1) (atP o27 0) (atP o27 1) (atP o27 2) v12 v13 v14 v15 v16 (atP o27 3) r25 (atP o6 0) (atP o6 1) v17 v18 v19 v20)∧True)∧True)∧True)∧True)∧True)∧((((((x1k v6 (atP c1 1) (atP o27 0) (atP o27 1) (atP o27 2) v12 v13 v14 v15 v16 (atP o27 3) r25 (atP o6 0) (atP o6 1) v17 v18 v19 v20)∧True)∧True)∧True)∧True)∧True)∧True
  let F7:=fun (o2:List PV) (c1:List PV) (o6:List PV)=>(1=1)∧(1≤16777216)∧(1=1)∧(0=0)∧(1=1)∧(xae [.pv (I 0)] [.pv (atP o2 0)])∧xbd 1 v21 (.list 1 [[(atP o2 0)]]) fun r16 =>
   xac .eql (atP o2 0) (I 1) fun r17 =>
   xad r17
   (F1 c1 r16 o6)
   (F3 r16 o6)
  xac .lss v6 v5 fun r0 =>
  xad r0
   (xaj 21 v4 v6 fun c1 =>
   call Qjl [.one v0,.one v1,.agg [(atP c1 0),(atP c1 1),(atP c1 2),(atP c1 3),(atP c1 4),(atP c1 5),(atP c1 6),(atP c1 7),(atP c1 8),(atP c1 9),(atP c1 10),(atP c1 11),(atP c1 12),(atP c1 13),(atP c1 14),(atP c1 15),(atP c1 16),(atP c1 17),(atP c1 18),(atP c1 19),(atP c1 20)],.one v2] fun o2 =>
   call Qfj [.one (atP c1 0)] fun o3 =>
   xad (atP o3 0)
    (xaj 17 (atP c1 0) (I 0) fun c4 =>
    xac .eql (atP c4 0) v0 fun r5 =>
    xad r5
     (call Qjt [.agg [v23,v24],.one (atP c1 0)] fun o6 =>
     call Qdw [.one (atP o6 2),.one (I 1),.one (I 3)] fun o7 =>
     xad (atP o7 0)
      (call Qkb [.agg [(atP o6 0),(atP o6 1)],.one v0] fun o8 =>
      unP .not (atP o8 0) fun r9 =>
      xac .eql (atP o2 0) (I 1) fun r10 =>
      xad r10
       (unP .not r9 fun r11 =>
       xad r11
        ((1=1)∧(1≤16777216)∧(1=1)∧(0=0)∧(1=1)∧(xae [.pv (I 0)] [.pv (I 3)])∧xbd 1 v21 (.list 1 [[(I 3)]]) fun r12 =>
        xac .eql (I 3) (I 1) fun r13 =>
        xad r13
         (F1 c1 r12 o6)
         (F3 r12 o6))
        (F7 o2 c1 o6))
       (F7 o2 c1 o6))
      (xac .eql (atP o2 0) (I 1) fun r24 =>
      xad r24
       ((1=1)∧(1≤16777216)∧(1=1)∧(0=0)∧(1=1)∧(xae [.pv (I 0)] [.pv (I 3)])∧xbd 1 v21 (.list 1 [[(I 3)]]) fun r25 =>
       xac .eql (I 3) (I 1) fun r26 =>
       xad r26
        (F4 c1 r25 o6)
        (F3 r25 o6))
       ((1=1)∧(1≤16777216)∧(1=1)∧(0=0)∧(1=1)∧(xae [.pv (I 0)] [.pv (atP o2 0)])∧xbd 1 v21 (.list 1 [[(atP o2 0)]]) fun r29 =>
       xac .eql (atP o2 0) (I 1) fun r30 =>
       xad r30
        (F4 c1 r29 o6)
        (F3 r29 o6))))
     (F0 o2 c1))
    (F0 o2 c1))
   (x4k v0 v1 v2 v3 v4 v5 v6 v7 v8 v9 v10 v11 v12 v13 v14 v15 v16 v17 v18 v19 v20 v21 v22 v23 v24)) v
def Qkc:GM
 | [.agg u0,.one a2,.one a3,.one a4,.one a5],k=>un 2 (fun a0 a1 =>
  call Qdq [.agg [a0,a1]] fun o0 =>
  xaH a2 fun r1 =>
  lp (fun L w=>Qkc_r0 w L
   (fun q85 q86 q87 q88 q89 q90 q91 q92 q93 q94 q95 q96 q97 q98 q99 q100 q101 q102=>rt g10 [q97,q98,q86,q87,q88,q89,q95,(.bool true),q96,q85] k)
   (fun q103 q104 q105 q106 q107 q108 q109 q110 q111 q112 q113 q114 q115 q116 q117 q118 q119 q120=>rt g10 [q115,q116,q104,q105,q106,q107,q113,(.bool true),q114,q103] k)
   (fun q121 q122 q123 q124 q125 q126 q127 q128 q129 q130 q131 q132 q133 q134 q135 q136 q137 q138=>rt g10 [q137,q138,q122,q123,q124,q125,q131,(.bool true),q132,q121] k)
   (fun q139 q140 q141 q142 q143 q144 q145 q146 q147 q148 q149 q150 q151 q152 q153 q154 q155 q156=>rt g10 [q155,q156,q140,q141,q142,q143,q149,(.bool true),q150,q139] k)
   (fun q157 q158 q159 q160 q161 q162 q163 q164 q165 q166 q167 q168 q169 q170 q171 q172 q173 q174 q175 q176 q177 q178 q179 q180 q181=>rt g10 [q180,q181,q164,q165,q166,q167,q179,q168,q178,(I (-1))] k)) [a3,a4,a5,(I 0),a2,r1,(I 0),(.bool false),(.str ⟨#[]⟩),(I 0),(I 0),(.bool false),(.bool false),(.str ⟨#[]⟩),(I 0),(I 0),(.bool false),(.list 1 []),(.list 1 []),(.list 51 []),(.list 1 []),(.list 1 []),(.list 1 []),(atP o0 0),(atP o0 1)]) u0
 | _,_=>False
def Qkc_l:List LE:=[⟨none,0,⟨[(2,.one zB),(3,.one zB),(4,.one zB),(10,.one (.ptr 1 0)),(11,.one zB),(12,.one (.ptr 4 0)),(18,.one zB),(19,.one zB),(20,.one zB)],[(4,[.own 2,.own 3,zB,zB,zB,zB,.own 5,zB,.own 6]),(1,[.own 7,.own 8,zB,zB,zB,zB,.own 9,zB,.own 10])],[(10,⟨.deep,3,1,(.bool false)⟩),(9,⟨.deep,9,1,(.bool false)⟩),(8,⟨.deep,259,51,(.bool false)⟩),(7,⟨.deep,90,1,(.bool false)⟩),(6,⟨.deep,3,1,(.bool false)⟩),(5,⟨.deep,9,1,(.bool false)⟩),(2,⟨.deep,90,1,(.bool false)⟩),(3,⟨.deep,259,51,(.bool false)⟩)],11,42,[]⟩,fun K k v=>Qkc_r0 v K (fun x0 x1 x2 x3 x4 x5 x6 x7 x8 x9 x10 x11 x12 x13 x14 x15 x16 x17=>k .ret ⟨[(10,.one (.ptr 1 0)),(11,.one (.pv x0))],[(1,[.own 15,.own 16,.pv x1,.pv x2,.pv x3,.pv x4,.own 25,.kb true,.own 21]),(1,[.own 7,.own 8,.pv x5,.pv x6,.pv x7,.pv x8,.own 9,.pv x9,.own 10])],[(25,⟨.deep,9,1,x10⟩),(21,⟨.deep,3,1,x11⟩),(15,⟨.deep,90,1,x12⟩),(16,⟨.deep,259,51,x13⟩),(10,⟨.deep,3,1,x14⟩),(9,⟨.deep,9,1,x15⟩),(8,⟨.deep,259,51,x16⟩),(7,⟨.deep,90,1,x17⟩)],26,42,[]⟩) (fun x0 x1 x2 x3 x4 x5 x6 x7 x8 x9 x10 x11 x12 x13 x14 x15 x16 x17=>k .ret ⟨[(10,.one (.ptr 1 0)),(11,.one (.pv x0))],[(1,[.own 15,.own 16,.pv x1,.pv x2,.pv x3,.pv x4,.own 24,.kb true,.own 20]),(1,[.own 7,.own 8,.pv x5,.pv x6,.pv x7,.pv x8,.own 9,.pv x9,.own 10])],[(24,⟨.deep,9,1,x10⟩),(20,⟨.deep,3,1,x11⟩),(15,⟨.deep,90,1,x12⟩),(16,⟨.deep,259,51,x13⟩),(10,⟨.deep,3,1,x14⟩),(9,⟨.deep,9,1,x15⟩),(8,⟨.deep,259,51,x16⟩),(7,⟨.deep,90,1,x17⟩)],25,42,[]⟩) (fun x0 x1 x2 x3 x4 x5 x6 x7 x8 x9 x10 x11 x12 x13 x14 x15 x16 x17=>k .ret ⟨[(10,.one (.ptr 1 0)),(11,.one (.pv x0))],[(1,[.own 2,.own 3,.pv x1,.pv x2,.pv x3,.pv x4,.own 22,.kb true,.own 18]),(1,[.own 7,.own 8,.pv x5,.pv x6,.pv x7,.pv x8,.own 9,.pv x9,.own 10])],[(22,⟨.deep,9,1,x10⟩),(18,⟨.deep,3,1,x11⟩),(10,⟨.deep,3,1,x12⟩),(9,⟨.deep,9,1,x13⟩),(8,⟨.deep,259,51,x14⟩),(7,⟨.deep,90,1,x15⟩),(2,⟨.deep,90,1,x16⟩),(3,⟨.deep,259,51,x17⟩)],23,42,[]⟩) (fun x0 x1 x2 x3 x4 x5 x6 x7 x8 x9 x10 x11 x12 x13 x14 x15 x16 x17=>k .ret ⟨[(10,.one (.ptr 1 0)),(11,.one (.pv x0))],[(1,[.own 2,.own 3,.pv x1,.pv x2,.pv x3,.pv x4,.own 21,.kb true,.own 17]),(1,[.own 7,.own 8,.pv x5,.pv x6,.pv x7,.pv x8,.own 9,.pv x9,.own 10])],[(21,⟨.deep,9,1,x10⟩),(17,⟨.deep,3,1,x11⟩),(10,⟨.deep,3,1,x12⟩),(9,⟨.deep,9,1,x13⟩),(8,⟨.deep,259,51,x14⟩),(7,⟨.deep,90,1,x15⟩),(2,⟨.deep,90,1,x16⟩),(3,⟨.deep,259,51,x17⟩)],22,42,[]⟩) (fun x0 x1 x2 x3 x4 x5 x6 x7 x8 x9 x10 x11 x12 x13 x14 x15 x16 x17 x18 x19 x20 x21 x22 x23 x24=>k (.exit 0) ⟨[(2,.one (.pv x0)),(3,.one (.pv x1)),(4,.one (.pv x2)),(10,.one (.ptr 1 0)),(11,.one (.pv x3)),(12,.one (.ptr 4 0)),(18,.one (.pv x4)),(19,.one (.pv x5)),(20,.one (.pv x6))],[(4,[.own 2,.own 3,.pv x7,.pv x8,.pv x9,.pv x10,.own 5,.pv x11,.own 6]),(1,[.own 7,.own 8,.pv x12,.pv x13,.pv x14,.pv x15,.own 9,.pv x16,.own 10])],[(10,⟨.deep,3,1,x17⟩),(9,⟨.deep,9,1,x18⟩),(8,⟨.deep,259,51,x19⟩),(7,⟨.deep,90,1,x20⟩),(6,⟨.deep,3,1,x21⟩),(5,⟨.deep,9,1,x22⟩),(2,⟨.deep,90,1,x23⟩),(3,⟨.deep,259,51,x24⟩)],11,42,[]⟩)⟩]
theorem Qkc_s:xaC [⟨[198],Qdq⟩,⟨[230],Qjl⟩,⟨[267],Qfj⟩,⟨[286],Qjt⟩,⟨[266],Qdw⟩,⟨[287],Qkb⟩,⟨[229],Qdo⟩] TT.nofl (kk [2,3,4,10,11,12,18,19,20,999999]) Qkc_l f163 Qkc_l:=⟨fun v K k h=>by
 apply xab h;(repeat intro _);rename_i h;exact km h
 ,trivial⟩
theorem Qkc_w:EO ⟨[163],Qkc⟩:=oF (ec Qdq_w (ec Qjl_w (ec Qfj_w (ec Qjt_w (ec Qdw_w (ec Qkb_w (ec Qdo_w en))))))) (keep:=(kk [2,3,4,10,11,12,18,19,20,999999])) (l:=Qkc_l) func163 Qkc_s fun av k h=>by
 unfold Qkc at h;split at h
 ·apply xab h;clear h;intro a0 a1 h;exact km h
 ·exact h.elim
def Qkd:GM
 | [.agg u0,.one a4],k=>un 4 (fun a0 a1 a2 a3 =>
  call Qhe [.one a3,.one a4] fun o0 =>
  xac .lss (atP o0 0) (I 0) fun r1 =>
  xad r1
   (rt [.sc] [(I (-1))] k)
   (rt [.sc] [(atP o0 0)] k)) u0
 | _,_=>False
theorem Qkd_w:EO ⟨[101],Qkd⟩:=oFz (ec Qhe_w en) func101 fun av k h=>by
 unfold Qkd at h;split at h
 ·apply xab h;clear h;intro a0 a1 a2 a3 h;exact km h
 ·exact h.elim
def Qke:GM
 | [.agg u0,.one a3],k=>un 3 (fun a0 a1 a2 =>
  call Qah [.one a1,.one a3] fun o0 =>
  xac .lss (atP o0 0) (I 0) fun r1 =>
  xad r1
   (rt [.sc] [(I (-1))] k)
   (call Qan [.one a2,.one (atP o0 0)] fun o2 =>
   xac .lss (atP o2 0) (I 0) fun r3 =>
   xad r3
    (rt [.sc] [(I (-1))] k)
    (rt [.sc] [(atP o2 0)] k))) u0
 | _,_=>False
theorem Qke_w:EO ⟨[10],Qke⟩:=oFz (ec Qah_w (ec Qan_w en)) func10 fun av k h=>by
 unfold Qke at h;split at h
 ·apply xab h;clear h;intro a0 a1 a2 h;exact km h
 ·exact h.elim
def Qkf:GM
 | [.agg u0],k=>un 3 (fun a0 a1 a2 =>
  call Qav [.one a1] fun o0 =>
  call Qbb [.one a2] fun o1 =>
  rt [.sc,.own true 9 1,.own true 221 23] [a0,(atP o0 0),(atP o1 0)] k) u0
 | _,_=>False
theorem Qkf_w:EO ⟨[12],Qkf⟩:=oFz (ec Qav_w (ec Qbb_w en)) func12 fun av k h=>by
 unfold Qkf at h;split at h
 ·apply xab h;clear h;intro a0 a1 a2 h;exact km h
 ·exact h.elim
def Qkg_r0 (v:List PV) (K:List PV→Prop) (x0k:PV→Prop) (x1k:Cur 5):Prop :=
 un 5 (fun v0 v1 v2 v3 v4 =>
  xaH v4 fun r0 =>
  xac .lss v3 r0 fun r1 =>
  xad r1
   (xaj 23 v4 v3 fun c2 =>
   xac .eql (atP c2 0) v0 fun r3 =>
   xad r3
    (xaj 23 v4 v3 fun c4 =>
    xac .eql (atP c4 1) v1 fun r5 =>
    xad r5
     (x0k v3)
     (xac .add v3 (I 1) fun r6 =>
     K [v0,v1,v2,r6,v4]))
    (xac .add v3 (I 1) fun r7 =>
    K [v0,v1,v2,r7,v4]))
   (x1k v0 v1 v2 v3 v4)) v
def Qkg:GM
 | [.agg u0,.one a1,.one a2],k=>un 1 (fun a0 =>
  lp (fun L w=>Qkg_r0 w L
   (fun q8=>rt [.sc] [q8] k)
   (fun q9 q10 q11 q12 q13=>rt [.sc] [(I (-1))] k)) [a1,a2,(I 0),(I 0),a0]) u0
 | _,_=>False
def Qkg_l:List LE:=[⟨none,0,⟨[(1,.one zB),(2,.one zB),(3,.one (.ptr 0 0)),(6,.one zB),(7,.one zB)],[(0,[zB])],[],1,34,[]⟩,fun K k v=>Qkg_r0 v K (fun x0=>k .ret ⟨[(6,.one (.pv x0))],[],[],1,34,[]⟩) (fun x0 x1 x2 x3 x4=>k (.exit 0) ⟨[(1,.one (.pv x0)),(2,.one (.pv x1)),(3,.one (.ptr 0 0)),(6,.one (.pv x2)),(7,.one (.pv x3))],[(0,[.pv x4])],[],1,34,[]⟩)⟩]
theorem Qkg_s:xaC [] TT (kk [1,2,3,6,7,24,25,26,27,28,29,30,31,999999]) Qkg_l f223 Qkg_l:=⟨fun v K k h=>by
 apply xab h;exact fun v0 v1 v2 v3 v4 h=>km h
 ,trivial⟩
theorem Qkg_w:EO ⟨[223],Qkg⟩:=oN en (keep:=(kk [1,2,3,6,7,24,25,26,27,28,29,30,31,999999])) (l:=Qkg_l) func223 Qkg_s fun av k h=>by
 unfold Qkg at h;split at h
 ·apply xab h;clear h;intro a0 h;exact km h
 ·exact h.elim
def Qkh:GM
 | [.agg u0,.one a1,.one a2],k=>un 1 (fun a0 =>
  call Qkg [.agg [a0],.one a1,.one a2] fun o0 =>
  xac .lss (atP o0 0) (I 0) fun r1 =>
  xad r1
   (rt g2 [(.list 17 []),(.bool false),(.str ⟨#[]⟩),(I 0),(I 0),(.list 1 []),(I 0),(.list 1 []),(I 0),(.str ⟨#[]⟩),(I 0),(I 0),(.list 1 []),(.str ⟨#[]⟩),(I 0),(I 0),(.list 1 []),(I 0),(.list 1 []),(I 0),(.list 1 [])] k)
   (xaj 23 a0 (atP o0 0) fun c2 =>
   call Qbm [.agg [(atP c2 2),(atP c2 3),(atP c2 4),(atP c2 5),(atP c2 6),(atP c2 7),(atP c2 8),(atP c2 9),(atP c2 10),(atP c2 11),(atP c2 12),(atP c2 13),(atP c2 14),(atP c2 15),(atP c2 16),(atP c2 17),(atP c2 18),(atP c2 19),(atP c2 20),(atP c2 21),(atP c2 22)]] fun o3 =>
   rt g2 (s21 o3) k)) u0
 | _,_=>False
theorem Qkh_w:EO ⟨[153],Qkh⟩:=oNz (ec Qkg_w (ec Qbm_w en)) func153 fun av k h=>by
 unfold Qkh at h;split at h
 ·apply xab h;clear h;intro a0 h;exact km h
 ·exact h.elim
def Qki_r0 (v:List PV) (K:List PV→Prop) (x0k:Cur 7) (x1k:Cur 6):Prop :=
 un 6 (fun v0 v1 v2 v3 v4 v5 =>
  xaH v0 fun r0 =>
  xac .lss v3 r0 fun r1 =>
  xad r1
   (xac .lss v3 (I 4) fun r2 =>
   xad r2
    (xaj 2 v0 v3 fun c3 =>
    call Qhp [.agg [(atP c3 0),(atP c3 1)],.one v1,.one v2] fun o4 =>
    (1=1)∧(21≤16777216)∧(21=21)∧(0=0)∧(21=21)∧xbd 21 v5 (.list 21 [(s21 o4)]) fun r5 =>
    xac .add v3 (I 1) fun r6 =>
    K [v0,v1,v2,r6,v4,r5])
    (x0k v0 v1 v2 v3 r2 v4 v5))
   (x1k v0 v1 v2 v3 v4 v5)) v
def Qki:GM
 | [.one a0,.one a1,.one a2],k =>
  (0=0)∧(0≤16777216)∧(21=21)∧lp (fun L w=>Qki_r0 w L
   (fun q7 q8 q9 q10 q11 q12 q13=>rt [.pv] [q13] k)
   (fun q14 q15 q16 q17 q18 q19=>rt [.pv] [q19] k)) [a0,a1,a2,(I 0),(.list 21 []),(.list 21 [])]
 | _,_=>False
def Qki_l:List LE:=[⟨none,0,⟨[(0,.one zB),(1,.one zB),(2,.one zB),(6,.one (.own 1)),(7,.one (.own 0)),(8,.one zB)],[],[(1,⟨.flat,150,21,(.bool false)⟩),(0,⟨.flat,150,21,(.bool false)⟩)],2,31,[]⟩,fun K k v=>Qki_r0 v K (fun x0 x1 x2 x3 x4 x5 x6=>k (.exit 0) ⟨[(0,.one (.pv x0)),(1,.one (.pv x1)),(2,.one (.pv x2)),(6,.one (.own 1)),(7,.one (.own 0)),(8,.one (.pv x3)),(15,.one (.pv x3)),(16,.one (.pv x4))],[],[(1,⟨.flat,150,21,x5⟩),(0,⟨.flat,150,21,x6⟩)],2,31,[]⟩) (fun x0 x1 x2 x3 x4 x5=>k (.exit 0) ⟨[(0,.one (.pv x0)),(1,.one (.pv x1)),(2,.one (.pv x2)),(6,.one (.own 1)),(7,.one (.own 0)),(8,.one (.pv x3)),(15,.undef),(16,.undef)],[],[(1,⟨.flat,150,21,x4⟩),(0,⟨.flat,150,21,x5⟩)],2,31,[]⟩)⟩]
theorem Qki_s:xaC [⟨[170],Qhp⟩] TT (kk [0,1,2,6,7,8,15,16,999999]) Qki_l f154 Qki_l:=⟨fun v K k h=>by
 apply xab h;exact fun v0 v1 v2 v3 v4 v5 h=>km h
 ,trivial⟩
theorem Qki_w:EO ⟨[154],Qki⟩:=oN (ec Qhp_w en) (keep:=(kk [0,1,2,6,7,8,15,16,999999])) (l:=Qki_l) func154 Qki_s fun av k h=>by
 unfold Qki at h;split at h
 ·exact km h
 ·exact h.elim
def Qkj:GM
 | [.agg u0,.one a1,.one a2,.agg u1,.one a24],k=>un 1 (fun a0=>un 21 (fun a3 a4 a5 a6 a7 a8 a9 a10 a11 a12 a13 a14 a15 a16 a17 a18 a19 a20 a21 a22 a23 =>
  call Qbn [.agg [a0]] fun o0 =>
  call Qig [.one a1,.one a2,.agg [a3,a4,a5,a6,a7,a8,a9,a10,a11,a12,a13,a14,a15,a16,a17,a18,a19,a20,a21,a22,a23],.one a24] fun o1 =>
  xac .neq (atP o1 0) (I 1) fun r2 =>
  xad r2
   (rt [.pv] [(atP o0 0)] k)
   (call Qbm [.agg [a3,a4,a5,a6,a7,a8,a9,a10,a11,a12,a13,a14,a15,a16,a17,a18,a19,a20,a21,a22,a23]] fun o3 =>
   call Qkg [.agg [a0],.one a1,.one a2] fun o4 =>
   xac .geq (atP o4 0) (I 0) fun r5 =>
   xad r5
    (xdm 23 (atP o0 0) (atP o4 0) fun n6 =>
    xmu (atP o0 0) n6 0 [a1,a2,(atP o3 0),(atP o3 1),(atP o3 2),(atP o3 3),(atP o3 4),(atP o3 5),(atP o3 6),(atP o3 7),(atP o3 8),(atP o3 9),(atP o3 10),(atP o3 11),(atP o3 12),(atP o3 13),(atP o3 14),(atP o3 15),(atP o3 16),(atP o3 17),(atP o3 18),(atP o3 19),(atP o3 20)] fun r7 =>
    rt [.pv] [r7] k)
    (xaH a0 fun r8 =>
    xac .lss r8 (I 16) fun r9 =>
    xad r9
     ((1=1)∧(23≤16777216)∧(23=23)∧(0=0)∧(23=23)∧xbd 23 (atP o0 0) (.list 23 [[a1,a2,(atP o3 0),(atP o3 1),(atP o3 2),(atP o3 3),(atP o3 4),(atP o3 5),(atP o3 6),(atP o3 7),(atP o3 8),(atP o3 9),(atP o3 10),(atP o3 11),(atP o3 12),(atP o3 13),(atP o3 14),(atP o3 15),(atP o3 16),(atP o3 17),(atP o3 18),(atP o3 19),(atP o3 20)]]) fun r10 =>
     rt [.pv] [r10] k)
     (rt [.pv] [(atP o0 0)] k)))) u1) u0
 | _,_=>False
theorem Qkj_w:EO ⟨[155],Qkj⟩:=oNz (ec Qbn_w (ec Qig_w (ec Qbm_w (ec Qkg_w en)))) func155 fun av k h=>by
 unfold Qkj at h;split at h
 ·apply xab h;clear h;intro a0 h;apply xab h;clear h;(repeat intro _);rename_i h;exact km h
 ·exact h.elim
def Qkk:GM
 | [.agg u0],k=>un 9 (fun a0 a1 a2 a3 a4 a5 a6 a7 a8 =>
  unP .not a7 fun r0 =>
  xad r0
   (rt g11 [(.str ⟨#[]⟩),(I 0),(I 0),(.list 1 []),(.bool false)] k)
   (unP .not a2 fun r1 =>
   xad r1
    (rt g11 [(.str ⟨#[]⟩),(I 0),(I 0),(.list 1 []),(.bool false)] k)
    (call Qbj [.agg [a3,a4,a5,a6]] fun o2 =>
    rt g11 [(atP o2 0),(atP o2 1),(atP o2 2),(atP o2 3),(.bool true)] k))) u0
 | _,_=>False
theorem Qkk_w:EO ⟨[156],Qkk⟩:=oNz (ec Qbj_w en) func156 fun av k h=>by
 unfold Qkk at h;split at h
 ·apply xab h;clear h;(repeat intro _);rename_i h;exact km h
 ·exact h.elim
def Qkl:GM
 | [.agg u0],k=>un 9 (fun a0 a1 a2 a3 a4 a5 a6 a7 a8 =>
  xad a7
   (unP .not a2 fun r0 =>
   rt [.sc] [r0] k)
   (rt [.sc] [(.bool false)] k)) u0
 | _,_=>False
theorem Qkl_w:EO ⟨[157],Qkl⟩:=oNz en func157 fun av k h=>by
 unfold Qkl at h;split at h
 ·apply xab h;clear h;(repeat intro _);rename_i h;exact km h
 ·exact h.elim
def Qkm_r0 (v:List PV) (K:List PV→Prop) (x0k:Cur 19) (x1k:Cur 19) (x2k:Cur 19) (x3k:Cur 19) (x4k:Cur 19) (x5k:Cur 19) (x6k:Cur 19) (x7k:Cur 19) (x8k:Cur 19) (x9k:Cur 19) (x10k:Cur 19) (x11k:Cur 19) (x12k:Cur 19) (x13k:Cur 19) (x14k:Cur 19) (x15k:Cur 19):Prop :=
 un 24 (fun v0 v1 v2 v3 v4 v5 v6 v7 v8 v9 v10 v11 v12 v13 v14 v15 v16 v17 v18 v19 v20 v21 v22 v23 =>
  (1=1)∧(1≤16777216)∧(1=1)∧(0=0)∧(1=1)∧(xae [.pv (I 0)] [.pv v2])∧xbd 1 v23 (.list 1 [[v2]]) fun r0 =>
  xaj 1 v3 (I 0) fun c1 =>
  call Qkh [.agg [v4],.one v2,.one (atP c1 0)] fun o2 =>
  (1=1)∧(21≤16777216)∧(21=21)∧(0=0)∧(21=21)∧xaj 1 v3 (I 0) fun c3 =>
  call Qki [.one v0,.one v2,.one (atP c3 0)] fun o4 =>
  xbd 21 (.list 21 [[(atP o2 0),(atP o2 1),(atP o2 2),(atP o2 3),(atP o2 4),(atP o2 5),(atP o2 6),(atP o2 7),(atP o2 8),(atP o2 9),(atP o2 10),(atP o2 11),(atP o2 12),(atP o2 13),(atP o2 14),(atP o2 15),(atP o2 16),(atP o2 17),(atP o2 18),(atP o2 19),(atP o2 20)]]) (atP o4 0) fun r5 =>
  xaj 1 v3 (I 0) fun c6 =>
  ((call Qil [.agg [v5,v6],.one r5,.one v2,.one (atP c6 0),.one v1] fun o7 =>
  (xad (atP o7 7)
   (xaj 1 v3 (I 0) fun c8 =>
   xaH (atP o7 8) fun r9 =>
   xac .sub r9 (I 1) fun r10 =>
   xaj 21 r5 r10 fun c11 =>
   call Qkj [.agg [v4],.one v2,.one (atP c8 0),.agg [(atP c11 0),(atP c11 1),(atP c11 2),(atP c11 3),(atP c11 4),(atP c11 5),(atP c11 6),(atP c11 7),(atP c11 8),(atP c11 9),(atP c11 10),(atP c11 11),(atP c11 12),(atP c11 13),(atP c11 14),(atP c11 15),(atP c11 16),(atP c11 17),(atP c11 18),(atP c11 19),(atP c11 20)],.one v1] fun o12 =>
   call Qkk [.agg [(atP o7 0),(atP o7 1),(atP o7 2),(atP o7 3),(atP o7 4),(atP o7 5),(atP o7 6),(atP o7 7),(atP o7 8)]] fun o13 =>
   call Qkl [.agg [(atP o7 0),(atP o7 1),(atP o7 2),(atP o7 3),(atP o7 4),(atP o7 5),(atP o7 6),(atP o7 7),(atP o7 8)]] fun o14 =>
   xad (atP o14 0)
    (x0k (atP o7 0) (atP o7 1) v8 v9 v10 v11 v12 (atP o12 0) v13 v14 v15 v16 v17 v18 v19 v20 v21 r0 v22)
    (unP .not (atP o13 4) fun r15 =>
    xad r15
     (x1k (atP o7 0) (atP o7 1) v8 v9 v10 v11 v12 (atP o12 0) v13 v14 v15 v16 v17 v18 v19 v20 v21 r0 v22)
     (xac .eql (atP o13 1) (I 3) fun r16 =>
     xad r16
      (call Qbi [.one (atP o13 3)] fun o17 =>
      xg6 (I 1) fun n18 =>
      xf8 1 v3 (some n18) none fun r19 =>
      (xaZ r19)∧xbd 1 (atP o17 0) r19 fun r20 =>
      xac .geq v12 (I 3) fun r21 =>
      xad r21
       (x2k (atP o7 0) (atP o7 1) v8 v9 v10 v11 v12 (atP o12 0) v13 v14 v15 v16 v17 v18 v19 v20 v21 r0 v22)
       (call Qcq [.one r20] fun o22 =>
       unP .not (atP o22 0) fun r23 =>
       xad r23
        (x3k (atP o7 0) (atP o7 1) v8 v9 v10 v11 v12 (atP o12 0) v13 v14 v15 v16 v17 v18 v19 v20 v21 r0 v22)
        (xac .add v12 (I 1) fun r24 =>
        K [v0,v1,(atP o13 2),r20,(atP o12 0),(atP o7 0),(atP o7 1),v7,v8,v9,v10,v11,r24,v13,v14,v15,v16,v17,v18,v19,v20,v21,v22,r0])))
      (xaH v3 fun r25 =>
      xac .eql r25 (I 1) fun r26 =>
      xad r26
       (x4k (atP o7 0) (atP o7 1) (atP o13 0) (atP o13 1) (atP o13 2) (atP o13 3) v12 (atP o12 0) v13 v14 v15 v16 v17 v18 v19 v20 v21 r0 v22)
       (xac .neq (atP o13 1) (I 2) fun r27 =>
       xad r27
        (x5k (atP o7 0) (atP o7 1) v8 v9 v10 v11 v12 (atP o12 0) v13 v14 v15 v16 v17 v18 v19 v20 v21 r0 v22)
        (xg6 (I 1) fun n28 =>
        xf8 1 v3 (some n28) none fun r29 =>
        K [v0,v1,(atP o13 2),r29,(atP o12 0),(atP o7 0),(atP o7 1),v7,v8,v9,v10,v11,v12,v13,v14,v15,v16,v17,v18,v19,v20,v21,v22,r0]))))))
   (call Qkk [.agg [(atP o7 0),(atP o7 1),(atP o7 2),(atP o7 3),(atP o7 4),(atP o7 5),(atP o7 6),(atP o7 7),(atP o7 8)]] fun o30 =>
   call Qkl [.agg [(atP o7 0),(atP o7 1),(atP o7 2),(atP o7 3),(atP o7 4),(atP o7 5),(atP o7 6),(atP o7 7),(atP o7 8)]] fun o31 =>
   xad (atP o31 0)
    (x6k (atP o7 0) (atP o7 1) v8 v9 v10 v11 v12 v4 v13 v14 v15 v16 v17 v18 v19 v20 v21 r0 v22)
    (unP .not (atP o30 4) fun r32 =>
    xad r32
     (x7k (atP o7 0) (atP o7 1) v8 v9 v10 v11 v12 v4 v13 v14 v15 v16 v17 v18 v19 v20 v21 r0 v22)
     (xac .eql (atP o30 1) (I 3) fun r33 =>
     xad r33
      (call Qbi [.one (atP o30 3)] fun o34 =>
      xg6 (I 1) fun n35 =>
      xf8 1 v3 (some n35) none fun r36 =>
      (xaZ r36)∧xbd 1 (atP o34 0) r36 fun r37 =>
      xac .geq v12 (I 3) fun r38 =>
      xad r38
       (x8k (atP o7 0) (atP o7 1) v8 v9 v10 v11 v12 v4 v13 v14 v15 v16 v17 v18 v19 v20 v21 r0 v22)
       (call Qcq [.one r37] fun o39 =>
       unP .not (atP o39 0) fun r40 =>
       xad r40
        (x2k (atP o7 0) (atP o7 1) v8 v9 v10 v11 v12 v4 v13 v14 v15 v16 v17 v18 v19 v20 v21 r0 v22)
        (xac .add v12 (I 1) fun r41 =>
        K [v0,v1,(atP o30 2),r37,v4,(atP o7 0),(atP o7 1),v7,v8,v9,v10,v11,r41,v13,v14,v15,v16,v17,v18,v19,v20,v21,v22,r0])))
      (xaH v3 fun r42 =>
      xac .eql r42 (I 1) fun r43 =>
      xad r43
       (x9k (atP o7 0) (atP o7 1) (atP o30 0) (atP o30 1) (atP o30 2) (atP o30 3) v12 v4 v13 v14 v15 v16 v17 v18 v19 v20 v21 r0 v22)
       (xac .neq (atP o30 1) (I 2) fun r44 =>
       xad r44
        (x10k (atP o7 0) (atP o7 1) v8 v9 v10 v11 v12 v4 v13 v14 v15 v16 v17 v18 v19 v20 v21 r0 v22)
        (xg6 (I 1) fun n45 =>
        xf8 1 v3 (some n45) none fun r46 =>
        K [v0,v1,(atP o30 2),r46,v4,(atP o7 0),(atP o7 1),v7,v8,v9,v10,v11,v12,v13,v14,v15,v16,v17,v18,v19,v20,v21,v22,r0])))))))∧True)∧True)∧(call Qil [.agg [v5,v6],.one r5,.one v2,.one (atP c6 0),.one v1] fun o47 =>
  ((xad (atP o47 7)
   (xaj 1 v3 (I 0) fun c48 =>
   xaH (atP o47 8) fun r49 =>
   xac .sub r49 (I 1) fun r50 =>
   xaj 21 r5 r50 fun c51 =>
   call Qkj [.agg [v4],.one v2,.one (atP c48 0),.agg [(atP c51 0),(atP c51 1),(atP c51 2),(atP c51 3),(atP c51 4),(atP c51 5),(atP c51 6),(atP c51 7),(atP c51 8),(atP c51 9),(atP c51 10),(atP c51 11),(atP c51 12),(atP c51 13),(atP c51 14),(atP c51 15),(atP c51 16),(atP c51 17),(atP c51 18),(atP c51 19),(atP c51 20)],.one v1] fun o52 =>
   call Qkk [.agg [(atP o47 0),(atP o47 1),(atP o47 2),(atP o47 3),(atP o47 4),(atP o47 5),(atP o47 6),(atP o47 7),(atP o47 8)]] fun o53 =>
   call Qkl [.agg [(atP o47 0),(atP o47 1),(atP o47 2),(atP o47 3),(atP o47 4),(atP o47 5),(atP o47 6),(atP o47 7),(atP o47 8)]] fun o54 =>
   xad (atP o54 0)
    (x11k (atP o47 0) (atP o47 1) v8 v9 v10 v11 v12 (atP o52 0) v13 v14 v15 v16 v17 v18 v19 v20 v21 r0 v22)
    (unP .not (atP o53 4) fun r55 =>
    xad r55
     (x12k (atP o47 0) (atP o47 1) v8 v9 v10 v11 v12 (atP o52 0) v13 v14 v15 v16 v17 v18 v19 v20 v21 r0 v22)
     (xac .eql (atP o53 1) (I 3) fun r56 =>
     xad r56
      (call Qbi [.one (atP o53 3)] fun o57 =>
      xg6 (I 1) fun n58 =>
      xf8 1 v3 (some n58) none fun r59 =>
      (xaZ r59)∧xbd 1 (atP o57 0) r59 fun r60 =>
      xac .geq v12 (I 3) fun r61 =>
      xad r61
       (x3k (atP o47 0) (atP o47 1) v8 v9 v10 v11 v12 (atP o52 0) v13 v14 v15 v16 v17 v18 v19 v20 v21 r0 v22)
       (call Qcq [.one r60] fun o62 =>
       unP .not (atP o62 0) fun r63 =>
       xad r63
        (x13k (atP o47 0) (atP o47 1) v8 v9 v10 v11 v12 (atP o52 0) v13 v14 v15 v16 v17 v18 v19 v20 v21 r0 v22)
        (xac .add v12 (I 1) fun r64 =>
        K [v0,v1,(atP o53 2),r60,(atP o52 0),(atP o47 0),(atP o47 1),v7,v8,v9,v10,v11,r64,v13,v14,v15,v16,v17,v18,v19,v20,v21,v22,r0])))
      (xaH v3 fun r65 =>
      xac .eql r65 (I 1) fun r66 =>
      xad r66
       (x14k (atP o47 0) (atP o47 1) (atP o53 0) (atP o53 1) (atP o53 2) (atP o53 3) v12 (atP o52 0) v13 v14 v15 v16 v17 v18 v19 v20 v21 r0 v22)
       (xac .neq (atP o53 1) (I 2) fun r67 =>
       xad r67
        (x15k (atP o47 0) (atP o47 1) v8 v9 v10 v11 v12 (atP o52 0) v13 v14 v15 v16 v17 v18 v19 v20 v21 r0 v22)
        (xg6 (I 1) fun n68 =>
        xf8 1 v3 (some n68) none fun r69 =>
        K [v0,v1,(atP o53 2),r69,(atP o52 0),(atP o47 0),(atP o47 1),v7,v8,v9,v10,v11,v12,v13,v14,v15,v16,v17,v18,v19,v20,v21,v22,r0]))))))
   (call Qkk [.agg [(atP o47 0),(atP o47 1),(atP o47 2),(atP o47 3),(atP o47 4),(atP o47 5),(atP o47 6),(atP o47 7),(atP o47 8)]] fun o70 =>
   call Qkl [.agg [(atP o47 0),(atP o47 1),(atP o47 2),(atP o47 3),(atP o47 4),(atP o47 5),(atP o47 6),(atP o47 7),(atP o47 8)]] fun o71 =>
   xad (atP o71 0)
    (x0k (atP o47 0) (atP o47 1) v8 v9 v10 v11 v12 v4 v13 v14 v15 v16 v17 v18 v19 v20 v21 r0 v22)
    (unP .not (atP o70 4) fun r72 =>
    xad r72
     (x1k (atP o47 0) (atP o47 1) v8 v9 v10 v11 v12 v4 v13 v14 v15 v16 v17 v18 v19 v20 v21 r0 v22)
     (xac .eql (atP o70 1) (I 3) fun r73 =>
     xad r73
      (call Qbi [.one (atP o70 3)] fun o74 =>
      xg6 (I 1) fun n75 =>
      xf8 1 v3 (some n75) none fun r76 =>
      (xaZ r76)∧xbd 1 (atP o74 0) r76 fun r77 =>
      xac .geq v12 (I 3) fun r78 =>
      xad r78
       (x2k (atP o47 0) (atP o47 1) v8 v9 v10 v11 v12 v4 v13 v14 v15 v16 v17 v18 v19 v20 v21 r0 v22)
       (call Qcq [.one r77] fun o79 =>
       unP .not (atP o79 0) fun r80 =>
       xad r80
        (x3k (atP o47 0) (atP o47 1) v8 v9 v10 v11 v12 v4 v13 v14 v15 v16 v17 v18 v19 v20 v21 r0 v22)
        (xac .add v12 (I 1) fun r81 =>
        K [v0,v1,(atP o70 2),r77,v4,(atP o47 0),(atP o47 1),v7,v8,v9,v10,v11,r81,v13,v14,v15,v16,v17,v18,v19,v20,v21,v22,r0])))
      (xaH v3 fun r82 =>
      xac .eql r82 (I 1) fun r83 =>
      xad r83
       (x4k (atP o47 0) (atP o47 1) (atP o70 0) (atP o70 1) (atP o70 2) (atP o70 3) v12 v4 v13 v14 v15 v16 v17 v18 v19 v20 v21 r0 v22)
       (xac .neq (atP o70 1) (I 2) fun r84 =>
       xad r84
        (x5k (atP o47 0) (atP o47 1) v8 v9 v10 v11 v12 v4 v13 v14 v15 v16 v17 v18 v19 v20 v21 r0 v22)
        (xg6 (I 1) fun n85 =>
        xf8 1 v3 (some n85) none fun r86 =>
        K [v0,v1,(atP o70 2),r86,v4,(atP o47 0),(atP o47 1),v7,v8,v9,v10,v11,v12,v13,v14,v15,v16,v17,v18,v19,v20,v21,v22,r0])))))))∧True)∧True)∧True) v
def Qkm:GM
 | [.agg u0,.agg u1,.one a3,.one a4,.one a5,.one a6],k=>un 2 (fun a0 a1=>un 1 (fun a2 =>
  call Qbh [.agg [a0,a1]] fun o0 =>
  call Qbn [.agg [a2]] fun o1 =>
  call Qcq [.one a5] fun o2 =>
  unP .not (atP o2 0) fun r3 =>
  xad r3
   (rt g0 [(atP o0 0),(atP o0 1),(I 6),(.str ⟨#[]⟩),(I 0),(I 0),(.list 1 []),(.list 1 []),(I 0),(atP o1 0)] k)
   (call Qbi [.one a5] fun o4 =>
   lp (fun L w=>Qkm_r0 w L
    (fun q87 q88 q89 q90 q91 q92 q93 q94 q95 q96 q97 q98 q99 q100 q101 q102 q103 q104 q105=>rt g0 [q87,q88,(I 2),q89,q90,q91,q92,q104,q93,q94] k)
    (fun q106 q107 q108 q109 q110 q111 q112 q113 q114 q115 q116 q117 q118 q119 q120 q121 q122 q123 q124=>rt g0 [q106,q107,(I 3),q108,q109,q110,q111,q123,q112,q113] k)
    (fun q125 q126 q127 q128 q129 q130 q131 q132 q133 q134 q135 q136 q137 q138 q139 q140 q141 q142 q143=>rt g0 [q125,q126,(I 5),q127,q128,q129,q130,q142,q131,q132] k)
    (fun q144 q145 q146 q147 q148 q149 q150 q151 q152 q153 q154 q155 q156 q157 q158 q159 q160 q161 q162=>rt g0 [q144,q145,(I 5),q146,q147,q148,q149,q161,q150,q151] k)
    (fun q163 q164 q165 q166 q167 q168 q169 q170 q171 q172 q173 q174 q175 q176 q177 q178 q179 q180 q181=>rt g0 [q163,q164,(I 1),q165,q166,q167,q168,q180,q169,q170] k)
    (fun q182 q183 q184 q185 q186 q187 q188 q189 q190 q191 q192 q193 q194 q195 q196 q197 q198 q199 q200=>rt g0 [q182,q183,(I 4),q184,q185,q186,q187,q199,q188,q189] k)
    (fun q201 q202 q203 q204 q205 q206 q207 q208 q209 q210 q211 q212 q213 q214 q215 q216 q217 q218 q219=>rt g0 [q201,q202,(I 2),q203,q204,q205,q206,q218,q207,q208] k)
    (fun q220 q221 q222 q223 q224 q225 q226 q227 q228 q229 q230 q231 q232 q233 q234 q235 q236 q237 q238=>rt g0 [q220,q221,(I 3),q222,q223,q224,q225,q237,q226,q227] k)
    (fun q239 q240 q241 q242 q243 q244 q245 q246 q247 q248 q249 q250 q251 q252 q253 q254 q255 q256 q257=>rt g0 [q239,q240,(I 5),q241,q242,q243,q244,q256,q245,q246] k)
    (fun q258 q259 q260 q261 q262 q263 q264 q265 q266 q267 q268 q269 q270 q271 q272 q273 q274 q275 q276=>rt g0 [q258,q259,(I 1),q260,q261,q262,q263,q275,q264,q265] k)
    (fun q277 q278 q279 q280 q281 q282 q283 q284 q285 q286 q287 q288 q289 q290 q291 q292 q293 q294 q295=>rt g0 [q277,q278,(I 4),q279,q280,q281,q282,q294,q283,q284] k)
    (fun q296 q297 q298 q299 q300 q301 q302 q303 q304 q305 q306 q307 q308 q309 q310 q311 q312 q313 q314=>rt g0 [q296,q297,(I 2),q298,q299,q300,q301,q313,q302,q303] k)
    (fun q315 q316 q317 q318 q319 q320 q321 q322 q323 q324 q325 q326 q327 q328 q329 q330 q331 q332 q333=>rt g0 [q315,q316,(I 3),q317,q318,q319,q320,q332,q321,q322] k)
    (fun q334 q335 q336 q337 q338 q339 q340 q341 q342 q343 q344 q345 q346 q347 q348 q349 q350 q351 q352=>rt g0 [q334,q335,(I 5),q336,q337,q338,q339,q351,q340,q341] k)
    (fun q353 q354 q355 q356 q357 q358 q359 q360 q361 q362 q363 q364 q365 q366 q367 q368 q369 q370 q371=>rt g0 [q353,q354,(I 1),q355,q356,q357,q358,q370,q359,q360] k)
    (fun q372 q373 q374 q375 q376 q377 q378 q379 q380 q381 q382 q383 q384 q385 q386 q387 q388 q389 q390=>rt g0 [q372,q373,(I 4),q374,q375,q376,q377,q389,q378,q379] k)) [a3,a6,a4,(atP o4 0),(atP o1 0),(atP o0 0),(atP o0 1),(I 6),(.str ⟨#[]⟩),(I 0),(I 0),(.list 1 []),(I 0),(.list 1 []),(.list 51 []),(I 0),(.str ⟨#[]⟩),(I 0),(I 0),(.list 1 []),(I 0),(.list 23 []),(.list 1 []),(.list 1 [])])) u1) u0
 | _,_=>False
def Qkm_l:List LE:=[⟨none,0,⟨[(2,.one zB),(5,.one zB),(12,.one (.ptr 2 0)),(13,.one (.ptr 5 0)),(14,.one (.ptr 7 0)),(15,.one zB),(16,.one zB)],[(7,[zB]),(5,[zB,zB,zB,zB,zB,zB,zB,.own 10,zB]),(2,[zB,zB,zB,zB,zB,zB,zB,.own 11,zB,zB])],[(11,⟨.deep,3,1,(.bool false)⟩),(10,⟨.deep,3,1,(.bool false)⟩)],12,152,[]⟩,fun K k v=>Qkm_r0 v K (fun x0 x1 x2 x3 x4 x5 x6 x7 x8 x9 x10 x11 x12 x13 x14 x15 x16 x17 x18=>k .ret ⟨[(12,.one (.ptr 2 0))],[(2,[.pv x0,.pv x1,.pv (I 2),.pv x2,.pv x3,.pv x4,.pv x5,.own 13,.pv x6,.pv x7]),(2,[.pv x8,.pv x9,.pv x10,.pv x11,.pv x12,.pv x13,.pv x14,.own 11,.pv x15,.pv x16])],[(13,⟨.deep,3,1,x17⟩),(11,⟨.deep,3,1,x18⟩)],56,152,[]⟩) (fun x0 x1 x2 x3 x4 x5 x6 x7 x8 x9 x10 x11 x12 x13 x14 x15 x16 x17 x18=>k .ret ⟨[(12,.one (.ptr 2 0))],[(2,[.pv x0,.pv x1,.pv (I 3),.pv x2,.pv x3,.pv x4,.pv x5,.own 13,.pv x6,.pv x7]),(2,[.pv x8,.pv x9,.pv x10,.pv x11,.pv x12,.pv x13,.pv x14,.own 11,.pv x15,.pv x16])],[(13,⟨.deep,3,1,x17⟩),(11,⟨.deep,3,1,x18⟩)],56,152,[]⟩) (fun x0 x1 x2 x3 x4 x5 x6 x7 x8 x9 x10 x11 x12 x13 x14 x15 x16 x17 x18=>k .ret ⟨[(12,.one (.ptr 2 0))],[(2,[.pv x0,.pv x1,.pv (I 5),.pv x2,.pv x3,.pv x4,.pv x5,.own 13,.pv x6,.pv x7]),(2,[.pv x8,.pv x9,.pv x10,.pv x11,.pv x12,.pv x13,.pv x14,.own 11,.pv x15,.pv x16])],[(13,⟨.deep,3,1,x17⟩),(11,⟨.deep,3,1,x18⟩)],58,152,[]⟩) (fun x0 x1 x2 x3 x4 x5 x6 x7 x8 x9 x10 x11 x12 x13 x14 x15 x16 x17 x18=>k .ret ⟨[(12,.one (.ptr 2 0))],[(2,[.pv x0,.pv x1,.pv (I 5),.pv x2,.pv x3,.pv x4,.pv x5,.own 13,.pv x6,.pv x7]),(2,[.pv x8,.pv x9,.pv x10,.pv x11,.pv x12,.pv x13,.pv x14,.own 11,.pv x15,.pv x16])],[(13,⟨.deep,3,1,x17⟩),(11,⟨.deep,3,1,x18⟩)],59,152,[]⟩) (fun x0 x1 x2 x3 x4 x5 x6 x7 x8 x9 x10 x11 x12 x13 x14 x15 x16 x17 x18=>k .ret ⟨[(12,.one (.ptr 2 0))],[(2,[.pv x0,.pv x1,.pv (I 1),.pv x2,.pv x3,.pv x4,.pv x5,.own 13,.pv x6,.pv x7]),(2,[.pv x8,.pv x9,.pv x10,.pv x11,.pv x12,.pv x13,.pv x14,.own 11,.pv x15,.pv x16])],[(13,⟨.deep,3,1,x17⟩),(11,⟨.deep,3,1,x18⟩)],56,152,[]⟩) (fun x0 x1 x2 x3 x4 x5 x6 x7 x8 x9 x10 x11 x12 x13 x14 x15 x16 x17 x18=>k .ret ⟨[(12,.one (.ptr 2 0))],[(2,[.pv x0,.pv x1,.pv (I 4),.pv x2,.pv x3,.pv x4,.pv x5,.own 13,.pv x6,.pv x7]),(2,[.pv x8,.pv x9,.pv x10,.pv x11,.pv x12,.pv x13,.pv x14,.own 11,.pv x15,.pv x16])],[(13,⟨.deep,3,1,x17⟩),(11,⟨.deep,3,1,x18⟩)],56,152,[]⟩) (fun x0 x1 x2 x3 x4 x5 x6 x7 x8 x9 x10 x11 x12 x13 x14 x15 x16 x17 x18=>k .ret ⟨[(12,.one (.ptr 2 0))],[(2,[.pv x0,.pv x1,.pv (I 2),.pv x2,.pv x3,.pv x4,.pv x5,.own 13,.pv x6,.pv x7]),(2,[.pv x8,.pv x9,.pv x10,.pv x11,.pv x12,.pv x13,.pv x14,.own 11,.pv x15,.pv x16])],[(13,⟨.deep,3,1,x17⟩),(11,⟨.deep,3,1,x18⟩)],55,152,[]⟩) (fun x0 x1 x2 x3 x4 x5 x6 x7 x8 x9 x10 x11 x12 x13 x14 x15 x16 x17 x18=>k .ret ⟨[(12,.one (.ptr 2 0))],[(2,[.pv x0,.pv x1,.pv (I 3),.pv x2,.pv x3,.pv x4,.pv x5,.own 13,.pv x6,.pv x7]),(2,[.pv x8,.pv x9,.pv x10,.pv x11,.pv x12,.pv x13,.pv x14,.own 11,.pv x15,.pv x16])],[(13,⟨.deep,3,1,x17⟩),(11,⟨.deep,3,1,x18⟩)],55,152,[]⟩) (fun x0 x1 x2 x3 x4 x5 x6 x7 x8 x9 x10 x11 x12 x13 x14 x15 x16 x17 x18=>k .ret ⟨[(12,.one (.ptr 2 0))],[(2,[.pv x0,.pv x1,.pv (I 5),.pv x2,.pv x3,.pv x4,.pv x5,.own 13,.pv x6,.pv x7]),(2,[.pv x8,.pv x9,.pv x10,.pv x11,.pv x12,.pv x13,.pv x14,.own 11,.pv x15,.pv x16])],[(13,⟨.deep,3,1,x17⟩),(11,⟨.deep,3,1,x18⟩)],57,152,[]⟩) (fun x0 x1 x2 x3 x4 x5 x6 x7 x8 x9 x10 x11 x12 x13 x14 x15 x16 x17 x18=>k .ret ⟨[(12,.one (.ptr 2 0))],[(2,[.pv x0,.pv x1,.pv (I 1),.pv x2,.pv x3,.pv x4,.pv x5,.own 13,.pv x6,.pv x7]),(2,[.pv x8,.pv x9,.pv x10,.pv x11,.pv x12,.pv x13,.pv x14,.own 11,.pv x15,.pv x16])],[(13,⟨.deep,3,1,x17⟩),(11,⟨.deep,3,1,x18⟩)],55,152,[]⟩) (fun x0 x1 x2 x3 x4 x5 x6 x7 x8 x9 x10 x11 x12 x13 x14 x15 x16 x17 x18=>k .ret ⟨[(12,.one (.ptr 2 0))],[(2,[.pv x0,.pv x1,.pv (I 4),.pv x2,.pv x3,.pv x4,.pv x5,.own 13,.pv x6,.pv x7]),(2,[.pv x8,.pv x9,.pv x10,.pv x11,.pv x12,.pv x13,.pv x14,.own 11,.pv x15,.pv x16])],[(13,⟨.deep,3,1,x17⟩),(11,⟨.deep,3,1,x18⟩)],55,152,[]⟩) (fun x0 x1 x2 x3 x4 x5 x6 x7 x8 x9 x10 x11 x12 x13 x14 x15 x16 x17 x18=>k .ret ⟨[(12,.one (.ptr 2 0))],[(2,[.pv x0,.pv x1,.pv (I 2),.pv x2,.pv x3,.pv x4,.pv x5,.own 13,.pv x6,.pv x7]),(2,[.pv x8,.pv x9,.pv x10,.pv x11,.pv x12,.pv x13,.pv x14,.own 11,.pv x15,.pv x16])],[(13,⟨.deep,3,1,x17⟩),(11,⟨.deep,3,1,x18⟩)],57,152,[]⟩) (fun x0 x1 x2 x3 x4 x5 x6 x7 x8 x9 x10 x11 x12 x13 x14 x15 x16 x17 x18=>k .ret ⟨[(12,.one (.ptr 2 0))],[(2,[.pv x0,.pv x1,.pv (I 3),.pv x2,.pv x3,.pv x4,.pv x5,.own 13,.pv x6,.pv x7]),(2,[.pv x8,.pv x9,.pv x10,.pv x11,.pv x12,.pv x13,.pv x14,.own 11,.pv x15,.pv x16])],[(13,⟨.deep,3,1,x17⟩),(11,⟨.deep,3,1,x18⟩)],57,152,[]⟩) (fun x0 x1 x2 x3 x4 x5 x6 x7 x8 x9 x10 x11 x12 x13 x14 x15 x16 x17 x18=>k .ret ⟨[(12,.one (.ptr 2 0))],[(2,[.pv x0,.pv x1,.pv (I 5),.pv x2,.pv x3,.pv x4,.pv x5,.own 13,.pv x6,.pv x7]),(2,[.pv x8,.pv x9,.pv x10,.pv x11,.pv x12,.pv x13,.pv x14,.own 11,.pv x15,.pv x16])],[(13,⟨.deep,3,1,x17⟩),(11,⟨.deep,3,1,x18⟩)],60,152,[]⟩) (fun x0 x1 x2 x3 x4 x5 x6 x7 x8 x9 x10 x11 x12 x13 x14 x15 x16 x17 x18=>k .ret ⟨[(12,.one (.ptr 2 0))],[(2,[.pv x0,.pv x1,.pv (I 1),.pv x2,.pv x3,.pv x4,.pv x5,.own 13,.pv x6,.pv x7]),(2,[.pv x8,.pv x9,.pv x10,.pv x11,.pv x12,.pv x13,.pv x14,.own 11,.pv x15,.pv x16])],[(13,⟨.deep,3,1,x17⟩),(11,⟨.deep,3,1,x18⟩)],57,152,[]⟩) (fun x0 x1 x2 x3 x4 x5 x6 x7 x8 x9 x10 x11 x12 x13 x14 x15 x16 x17 x18=>k .ret ⟨[(12,.one (.ptr 2 0))],[(2,[.pv x0,.pv x1,.pv (I 4),.pv x2,.pv x3,.pv x4,.pv x5,.own 13,.pv x6,.pv x7]),(2,[.pv x8,.pv x9,.pv x10,.pv x11,.pv x12,.pv x13,.pv x14,.own 11,.pv x15,.pv x16])],[(13,⟨.deep,3,1,x17⟩),(11,⟨.deep,3,1,x18⟩)],57,152,[]⟩)⟩]
theorem Qkm_s:xaC [⟨[150],Qbh⟩,⟨[151],Qbn⟩,⟨[152],Qcq⟩,⟨[70],Qbi⟩,⟨[153],Qkh⟩,⟨[154],Qki⟩,⟨[85],Qil⟩,⟨[155],Qkj⟩,⟨[156],Qkk⟩,⟨[157],Qkl⟩] TT.shr (kk [2,5,12,13,14,15,16,116,117,118,999999]) Qkm_l f69 Qkm_l:=⟨fun v K k h=>by
 apply xab h;(repeat intro _);rename_i h;exact km h
 ,trivial⟩
theorem Qkm_w:EO ⟨[69],Qkm⟩:=oS (ec Qbh_w (ec Qbn_w (ec Qcq_w (ec Qbi_w (ec Qkh_w (ec Qki_w (ec Qil_w (ec Qkj_w (ec Qkk_w (ec Qkl_w en)))))))))) (keep:=(kk [2,5,12,13,14,15,16,116,117,118,999999])) (l:=Qkm_l) func69 Qkm_s fun av k h=>by
 unfold Qkm at h;split at h
 ·apply xab h;clear h;intro a0 a1 h;apply xab h;clear h;intro a2 h;exact km h
 ·exact h.elim
def Qkn:GM
 | [.agg u0,.agg u1,.one a3,.one a4,.one a5],k=>un 2 (fun a0 a1=>un 1 (fun a2 =>
  (0=0)∧(0≤16777216)∧(2=2)∧call Qkm [.agg [a0,a1],.agg [a2],.one (.list 2 []),.one a3,.one a4,.one a5] fun o0 =>
  rt g12 (s9 o0) k) u1) u0
 | _,_=>False
theorem Qkn_w:EO ⟨[136],Qkn⟩:=oNz (ec Qkm_w en) func136 fun av k h=>by
 unfold Qkn at h;split at h
 ·apply xab h;clear h;intro a0 a1 h;apply xab h;clear h;intro a2 h;exact km h
 ·exact h.elim
def Qko:GM
 | [.agg u0,.one a3],k=>un 3 (fun a0 a1 a2 =>
  xaH a2 fun r0 =>
  xac .gtr r0 (I 16) fun r1 =>
  xad r1
   (rt g12 [(.list 1 []),(.list 51 []),(I 6),(.str ⟨#[]⟩),(I 0),(I 0),(.list 1 []),(.list 1 []),(I 0)] k)
   (call Qkn [.agg [(.list 1 []),(.list 51 [])],.agg [a2],.one a0,.one a1,.one a3] fun o2 =>
   rt g12 (s9 o2) k)) u0
 | _,_=>False
theorem Qko_w:EO ⟨[49],Qko⟩:=oNz (ec Qkn_w en) func49 fun av k h=>by
 unfold Qko at h;split at h
 ·apply xab h;clear h;intro a0 a1 a2 h;exact km h
 ·exact h.elim
def Qkp:GM
 | [.agg u0,.ro (.cells u1),.ro (.cells u2)],k=>un 23 (fun a0 a1 a2 a3 a4 a5 a6 a7 a8 a9 a10 a11 a12 a13 a14 a15 a16 a17 a18 a19 a20 a21 a22=>un 1 (fun a23=>un 1 (fun a24 =>
  xac .eql a0 a23 fun r0 =>
  xad r0
   (xac .eql a1 a24 fun r1 =>
   rt [.sc] [r1] k)
   (rt [.sc] [(.bool false)] k)) u2) u1) u0
 | _,_=>False
theorem Qkp_w:EO ⟨[285],Qkp⟩:=oFz en func285 fun av k h=>by
 unfold Qkp at h;split at h
 ·apply xab h;clear h;(repeat intro _);rename_i h;apply xab h;clear h;intro a23 h;apply xab h;clear h;intro a24 h;exact km h
 ·exact h.elim
def Qkq_r0 (v:List PV) (K:List PV→Prop) (x0k:PV→Prop) (x1k:Cur 6):Prop :=
 un 6 (fun v0 v1 v2 v3 v4 v5 =>
  xac .lss v5 v4 fun r0 =>
  xad r0
   (xaj 23 v0 v5 fun c1 =>
   call Qkp [.agg [(atP c1 0),(atP c1 1),(atP c1 2),(atP c1 3),(atP c1 4),(atP c1 5),(atP c1 6),(atP c1 7),(atP c1 8),(atP c1 9),(atP c1 10),(atP c1 11),(atP c1 12),(atP c1 13),(atP c1 14),(atP c1 15),(atP c1 16),(atP c1 17),(atP c1 18),(atP c1 19),(atP c1 20),(atP c1 21),(atP c1 22)],.ro (.cells [v1]),.ro (.cells [v2])] fun o2 =>
   xad (atP o2 0)
    (x0k v5)
    (xac .add v5 (I 1) fun r3 =>
    K [v0,v1,v2,v3,v4,r3]))
   (x1k v0 v1 v2 v3 v4 v5)) v
def Qkq:GM
 | [.one a0,.fn 285 [.cells u0,.cells u1]],k=>un 1 (fun a1=>un 1 (fun a2 =>
  xaH a0 fun r0 =>
  lp (fun L w=>Qkq_r0 w L
   (fun q4=>rt [.sc] [q4] k)
   (fun q5 q6 q7 q8 q9 q10=>rt [.sc] [(I (-1))] k)) [a0,a1,a2,(I 0),r0,(I 0)]) u1) u0
 | _,_=>False
def Qkq_l:List LE:=[⟨none,0,⟨[(0,.one zB),(1,.one (.fn 285 [.ro (.cells [(.bool false)]),.ro (.cells [(.bool false)])])),(4,.one zB),(7,.one zB),(8,.one zB)],[],[],0,19,[]⟩,fun K k v=>Qkq_r0 v K (fun x0=>k .ret ⟨[(4,.one (.pv x0))],[],[],1,19,[]⟩) (fun x0 x1 x2 x3 x4 x5=>k (.exit 0) ⟨[(0,.one (.pv x0)),(1,.one (.fn 285 [.ro (.cells [x1]),.ro (.cells [x2])])),(4,.one (.pv x3)),(7,.one (.pv x4)),(8,.one (.pv x5))],[],[],0,19,[]⟩)⟩]
theorem Qkq_s:xaC [⟨[285],Qkp⟩] TT (kk [0,1,4,7,8]) Qkq_l f284 Qkq_l:=⟨fun v K k h=>by
 apply xab h;exact fun v0 v1 v2 v3 v4 v5 h=>km h
 ,trivial⟩
theorem Qkq_w:EO ⟨[284,285],Qkq⟩:=oN (ec Qkp_w en) (keep:=(kk [0,1,4,7,8])) (l:=Qkq_l) func284 Qkq_s fun av k h=>by
 unfold Qkq at h;split at h
 ·apply xab h;clear h;intro a1 h;apply xab h;clear h;intro a2 h;exact km h
 ·exact h.elim
def Qkr:GM
 | [.agg u0,.one a1,.one a2],k=>un 1 (fun a0 =>
  call Qkq [.one a0,.fn 285 [.cells [a1],.cells [a2]]] fun o0 =>
  rt [.sc] [(atP o0 0)] k) u0
 | _,_=>False
theorem Qkr_w:EO ⟨[227],Qkr⟩:=oFz (ec Qkq_w en) func227 fun av k h=>by
 unfold Qkr at h;split at h
 ·apply xab h;clear h;intro a0 h;exact km h
 ·exact h.elim
def Qks:GM
 | [.agg u0,.one a1,.one a2],k=>un 1 (fun a0 =>
  call Qkr [.agg [a0],.one a1,.one a2] fun o0 =>
  xac .lss (atP o0 0) (I 0) fun r1 =>
  xad r1
   (rt g1 [(.list 17 []),(.bool false),(.str ⟨#[]⟩),(I 0),(I 0),(.list 1 []),(I 0),(.list 1 []),(I 0),(.str ⟨#[]⟩),(I 0),(I 0),(.list 1 []),(.str ⟨#[]⟩),(I 0),(I 0),(.list 1 []),(I 0),(.list 1 []),(I 0),(.list 1 [])] k)
   (xaj 23 a0 (atP o0 0) fun c2 =>
   call Qdt [.agg [(atP c2 2),(atP c2 3),(atP c2 4),(atP c2 5),(atP c2 6),(atP c2 7),(atP c2 8),(atP c2 9),(atP c2 10),(atP c2 11),(atP c2 12),(atP c2 13),(atP c2 14),(atP c2 15),(atP c2 16),(atP c2 17),(atP c2 18),(atP c2 19),(atP c2 20),(atP c2 21),(atP c2 22)]] fun o3 =>
   rt g1 (s21 o3) k)) u0
 | _,_=>False
theorem Qks_w:EO ⟨[161],Qks⟩:=oFz (ec Qkr_w (ec Qdt_w en)) func161 fun av k h=>by
 unfold Qks at h;split at h
 ·apply xab h;clear h;intro a0 h;exact km h
 ·exact h.elim
def Qkt_r0 (v:List PV) (K:List PV→Prop) (x0k:Cur 7):Prop :=
 un 7 (fun v0 v1 v2 v3 v4 v5 v6 =>
  xac .lss v4 v3 fun r0 =>
  xad r0
   (xaj 2 v2 v4 fun c1 =>
   call Qix [.agg [(atP c1 0),(atP c1 1)],.one v0,.one v1] fun o2 =>
   (1=1)∧(21≤16777216)∧(21=21)∧(0=0)∧(21=21)∧(xae [.nil 257 17,zB,.pv (.str ⟨#[]⟩),.pv (I 0),.pv (I 0),.nil 9 1,.pv (I 0),.nil 3 1,.pv (I 0),.pv (.str ⟨#[]⟩),.pv (I 0),.pv (I 0),.nil 9 1,.pv (.str ⟨#[]⟩),.pv (I 0),.pv (I 0),.nil 9 1,.pv (I 0),.nil 3 1,.pv (I 0),.nil 3 1] [.own 3,.pv (atP o2 1),.pv (atP o2 2),.pv (atP o2 3),.pv (atP o2 4),.own 8,.pv (atP o2 6),.own 10,.pv (atP o2 8),.pv (atP o2 9),.pv (atP o2 10),.pv (atP o2 11),.own 15,.pv (atP o2 13),.pv (atP o2 14),.pv (atP o2 15),.own 19,.pv (atP o2 17),.own 21,.pv (atP o2 19),.own 23])∧xbd 21 v6 (.list 21 [(s21 o2)]) fun r3 =>
   xac .add v4 (I 1) fun r4 =>
   K [v0,v1,v2,v3,r4,v5,r3])
   (x0k v0 v1 v2 v3 v4 v5 v6)) v
def Qkt:GM
 | [.one a0,.one a1,.one a2],k =>
  (0=0)∧(0≤16777216)∧(21=21)∧xaH a0 fun r0 =>
  xug (I 4) r0 fun r1 =>
  xg6 r1 fun n2 =>
  xf8 2 a0 none (some n2) fun r3 =>
  xaH r3 fun r4 =>
  lp (fun L w=>Qkt_r0 w L
   (fun q5 q6 q7 q8 q9 q10 q11=>rt [.own true 150 21] [q11] k)) [a1,a2,r3,r4,(I 0),(.list 21 []),(.list 21 [])]
 | _,_=>False
def Qkt_l:List LE:=[⟨none,0,⟨[(1,.one zB),(2,.one zB),(6,.one (.own 1)),(7,.one (.own 0)),(15,.one zB),(16,.one zB),(17,.one zB)],[],[(1,⟨.deep,150,21,(.bool false)⟩),(0,⟨.deep,150,21,(.bool false)⟩)],2,30,[]⟩,fun K k v=>Qkt_r0 v K (fun x0 x1 x2 x3 x4 x5 x6=>k (.exit 0) ⟨[(1,.one (.pv x0)),(2,.one (.pv x1)),(6,.one (.own 1)),(7,.one (.own 0)),(15,.one (.pv x2)),(16,.one (.pv x3)),(17,.one (.pv x4))],[],[(1,⟨.deep,150,21,x5⟩),(0,⟨.deep,150,21,x6⟩)],2,30,[]⟩)⟩]
theorem Qkt_s:xaC [⟨[180],Qix⟩] TT.nofl (kk [1,2,6,7,15,16,17,999999]) Qkt_l f162 Qkt_l:=⟨fun v K k h=>by
 apply xab h;exact fun v0 v1 v2 v3 v4 v5 v6 h=>km h
 ,trivial⟩
theorem Qkt_w:EO ⟨[162],Qkt⟩:=oF (ec Qix_w en) (keep:=(kk [1,2,6,7,15,16,17,999999])) (l:=Qkt_l) func162 Qkt_s fun av k h=>by
 unfold Qkt at h;split at h
 ·exact km h
 ·exact h.elim
def Qku:GM
 | [.agg u0,.one a1,.one a2,.agg u1,.one a24],k=>un 1 (fun a0=>un 21 (fun a3 a4 a5 a6 a7 a8 a9 a10 a11 a12 a13 a14 a15 a16 a17 a18 a19 a20 a21 a22 a23 =>
  call Qdv [.agg [a0]] fun o0 =>
  call Qjl [.one a1,.one a2,.agg [a3,a4,a5,a6,a7,a8,a9,a10,a11,a12,a13,a14,a15,a16,a17,a18,a19,a20,a21,a22,a23],.one a24] fun o1 =>
  xac .neq (atP o1 0) (I 1) fun r2 =>
  xad r2
   (rt [.own true 221 23] [(atP o0 0)] k)
   (call Qdt [.agg [a3,a4,a5,a6,a7,a8,a9,a10,a11,a12,a13,a14,a15,a16,a17,a18,a19,a20,a21,a22,a23]] fun o3 =>
   call Qkr [.agg [a0],.one a1,.one a2] fun o4 =>
   xac .geq (atP o4 0) (I 0) fun r5 =>
   xad r5
    (xdm 23 (atP o0 0) (atP o4 0) fun n6 =>
    (xae [.pv (I 0),.pv (.str ⟨#[]⟩),.nil 257 17,zB,.pv (.str ⟨#[]⟩),.pv (I 0),.pv (I 0),.nil 9 1,.pv (I 0),.nil 3 1,.pv (I 0),.pv (.str ⟨#[]⟩),.pv (I 0),.pv (I 0),.nil 9 1,.pv (.str ⟨#[]⟩),.pv (I 0),.pv (I 0),.nil 9 1,.pv (I 0),.nil 3 1,.pv (I 0),.nil 3 1] [.pv a1,.pv a2,.own 6,.pv (atP o3 1),.pv (atP o3 2),.pv (atP o3 3),.pv (atP o3 4),.own 11,.pv (atP o3 6),.own 13,.pv (atP o3 8),.pv (atP o3 9),.pv (atP o3 10),.pv (atP o3 11),.own 18,.pv (atP o3 13),.pv (atP o3 14),.pv (atP o3 15),.own 22,.pv (atP o3 17),.own 24,.pv (atP o3 19),.own 26])∧xmu (atP o0 0) n6 0 [a1,a2,(atP o3 0),(atP o3 1),(atP o3 2),(atP o3 3),(atP o3 4),(atP o3 5),(atP o3 6),(atP o3 7),(atP o3 8),(atP o3 9),(atP o3 10),(atP o3 11),(atP o3 12),(atP o3 13),(atP o3 14),(atP o3 15),(atP o3 16),(atP o3 17),(atP o3 18),(atP o3 19),(atP o3 20)] fun r7 =>
    rt [.own true 221 23] [r7] k)
    (xaH a0 fun r8 =>
    xac .lss r8 (I 16) fun r9 =>
    xad r9
     ((1=1)∧(23≤16777216)∧(23=23)∧(0=0)∧(23=23)∧(xae [.pv (I 0),.pv (.str ⟨#[]⟩),.nil 257 17,zB,.pv (.str ⟨#[]⟩),.pv (I 0),.pv (I 0),.nil 9 1,.pv (I 0),.nil 3 1,.pv (I 0),.pv (.str ⟨#[]⟩),.pv (I 0),.pv (I 0),.nil 9 1,.pv (.str ⟨#[]⟩),.pv (I 0),.pv (I 0),.nil 9 1,.pv (I 0),.nil 3 1,.pv (I 0),.nil 3 1] [.pv a1,.pv a2,.own 6,.pv (atP o3 1),.pv (atP o3 2),.pv (atP o3 3),.pv (atP o3 4),.own 11,.pv (atP o3 6),.own 13,.pv (atP o3 8),.pv (atP o3 9),.pv (atP o3 10),.pv (atP o3 11),.own 18,.pv (atP o3 13),.pv (atP o3 14),.pv (atP o3 15),.own 22,.pv (atP o3 17),.own 24,.pv (atP o3 19),.own 26])∧xbd 23 (atP o0 0) (.list 23 [[a1,a2,(atP o3 0),(atP o3 1),(atP o3 2),(atP o3 3),(atP o3 4),(atP o3 5),(atP o3 6),(atP o3 7),(atP o3 8),(atP o3 9),(atP o3 10),(atP o3 11),(atP o3 12),(atP o3 13),(atP o3 14),(atP o3 15),(atP o3 16),(atP o3 17),(atP o3 18),(atP o3 19),(atP o3 20)]]) fun r10 =>
     rt [.own true 221 23] [r10] k)
     (rt [.own true 221 23] [(atP o0 0)] k)))) u1) u0
 | _,_=>False
theorem Qku_w:EO ⟨[164],Qku⟩:=oFz (ec Qdv_w (ec Qjl_w (ec Qdt_w (ec Qkr_w en)))) func164 fun av k h=>by
 unfold Qku at h;split at h
 ·apply xab h;clear h;intro a0 h;apply xab h;clear h;(repeat intro _);rename_i h;exact km h
 ·exact h.elim
end Go.Ev
