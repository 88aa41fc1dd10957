/- For each function the meaning that the evaluator gives it, proved, part 3. -/
import Derived.Test.YtmhmcamcenidaaaGreatFn2
set_option linter.unusedVariables false
set_option linter.unusedSimpArgs false
set_option maxRecDepth 100000
namespace Go.Ev
open Go.Proofs Go.Proofs.Tryz
def Qhi_r0 (v:List PV) (K:List PV→Prop) (x0k:Prop) (x1k:Prop) (x2k:Prop) (x3k:Prop) (x4k:Prop) (x5k:PV→PV→PV→PV→Prop):Prop :=
 un 4 (fun v0 v1 v2 v3 =>
  xaK v0 fun r0 =>
  xac .lss v3 r0 fun r1 =>
  xad r1
   (xai 17 v0 v3 fun c2 =>
   xac .neq (atP c2 0) v1 fun r3 =>
   xad r3
    (x0k)
    (xac .add v1 (I 1) fun r4 =>
    xai 17 v0 v3 fun c5 =>
    xac .neq (atP c5 1) r4 fun r6 =>
    xad r6
     (x0k)
     (xac .add r4 (I 1) fun r7 =>
     xai 17 v0 v3 fun c8 =>
     xac .neq (atP c8 2) r7 fun r9 =>
     xad r9
      (x0k)
      (xac .add r7 (I 1) fun r10 =>
      xai 17 v0 v3 fun c11 =>
      xac .neq (atP c11 3) r10 fun r12 =>
      xad r12
       (x0k)
       (xac .add r10 (I 1) fun r13 =>
       xai 17 v0 v3 fun c14 =>
       xac .neq (atP c14 4) r13 fun r15 =>
       xad r15
        (x0k)
        (xac .add r13 (I 1) fun r16 =>
        xai 17 v0 v3 fun c17 =>
        xac .neq (atP c17 5) r16 fun r18 =>
        xad r18
         (x0k)
         (xac .add r16 (I 1) fun r19 =>
         xai 17 v0 v3 fun c20 =>
         xac .neq (atP c20 6) r19 fun r21 =>
         xad r21
          (x0k)
          (xac .add r19 (I 1) fun r22 =>
          xai 17 v0 v3 fun c23 =>
          xac .neq (atP c23 7) r22 fun r24 =>
          xad r24
           (x0k)
           (xac .add r22 (I 1) fun r25 =>
           xai 17 v0 v3 fun c26 =>
           call Qhg [.one (atP c26 8),.one r25] fun o27 =>
           xac .lss (atP o27 0) (I 0) fun r28 =>
           xad r28
            (x1k)
            (xai 17 v0 v3 fun c29 =>
            xac .neq (atP c29 9) (atP o27 0) fun r30 =>
            xad r30
             (x1k)
             (xac .add (atP o27 0) (I 1) fun r31 =>
             xai 17 v0 v3 fun c32 =>
             call Qhg [.one (atP c32 10),.one r31] fun o33 =>
             xac .lss (atP o33 0) (I 0) fun r34 =>
             xad r34
              (x2k)
              (xai 17 v0 v3 fun c35 =>
              xac .neq (atP c35 11) (atP o33 0) fun r36 =>
              xad r36
               (x2k)
               (xac .add (atP o33 0) (I 1) fun r37 =>
               xai 17 v0 v3 fun c38 =>
               xac .neq (atP c38 12) r37 fun r39 =>
               xad r39
                (x2k)
                (xac .add r37 (I 1) fun r40 =>
                xai 17 v0 v3 fun c41 =>
                call Qhg [.one (atP c41 13),.one r40] fun o42 =>
                xac .lss (atP o42 0) (I 0) fun r43 =>
                xad r43
                 (x3k)
                 (xai 17 v0 v3 fun c44 =>
                 xac .neq (atP c44 14) (atP o42 0) fun r45 =>
                 xad r45
                  (x3k)
                  (xac .add (atP o42 0) (I 1) fun r46 =>
                  xai 17 v0 v3 fun c47 =>
                  xac .rem r46 (I 3) fun r48 =>
                  xac .eql r48 (I 0) fun r49 =>
                  xer .neq (atP c47 15) r49 fun r50 =>
                  xad r50
                   (x3k)
                   (xac .add r46 (I 1) fun r51 =>
                   xai 17 v0 v3 fun c52 =>
                   call Qhh [.one (atP c52 16),.one r51] fun o53 =>
                   xac .lss (atP o53 0) (I 0) fun r54 =>
                   xad r54
                    (x4k)
                    (xac .add v3 (I 1) fun r55 =>
                    K [v0,(atP o53 0),v2,r55]))))))))))))))))))
   (x5k v0 v1 v2 v3)) v
def Qhi:GM
 | [.one a0,.one a1],k =>
  lp (fun L w=>Qhi_r0 w L
   (rt [.sc] [(I (-1))] k)
   (rt [.sc] [(I (-1))] k)
   (rt [.sc] [(I (-1))] k)
   (rt [.sc] [(I (-1))] k)
   (rt [.sc] [(I (-1))] k)
   (fun q56 q57 q58 q59=>rt [.sc] [q57] k)) [a0,a1,(I 0),(I 0)]
 | _,_=>False
def Qhi_l:List LE:=[⟨none,0,⟨[(0,.one zB),(1,.one zB),(4,.one zB),(5,.one zB)],[],[],0,190,[]⟩,fun K k v=>Qhi_r0 v K (k .ret ⟨[(4,.one (.pv (I (-1))))],[],[],0,190,[]⟩) (k .ret ⟨[(4,.one (.pv (I (-1))))],[],[],1,190,[]⟩) (k .ret ⟨[(4,.one (.pv (I (-1))))],[],[],2,190,[]⟩) (k .ret ⟨[(4,.one (.pv (I (-1))))],[],[],3,190,[]⟩) (k .ret ⟨[(4,.one (.pv (I (-1))))],[],[],4,190,[]⟩) (fun x0 x1 x2 x3=>k (.exit 0) ⟨[(0,.one (.pv x0)),(1,.one (.pv x1)),(4,.one (.pv x2)),(5,.one (.pv x3))],[],[],0,190,[]⟩)⟩]
theorem Qhi_s:xaD [⟨[102],Qhg⟩,⟨[231],Qhh⟩] TT.nofl (kk [0,1,4,5]) Qhi_l f165 Qhi_l:=⟨fun v K k h=>by
 apply xab h;exact fun v0 v1 v2 v3 h=>km h
 ,trivial⟩
theorem Qhi_w:EO ⟨[165],Qhi⟩:=oF (ec Qhg_w (ec Qhh_w en)) (keep:=(kk [0,1,4,5])) (l:=Qhi_l) func165 Qhi_s fun av k h=>by
 unfold Qhi at h;split at h
 ·exact km h
 ·exact h.elim
def Qhj_r0 (v:List PV) (K:List PV→Prop) (x0k:Prop) (x1k:PV→PV→PV→PV→Prop):Prop :=
 un 4 (fun v0 v1 v2 v3 =>
  xaK v0 fun r0 =>
  xac .lss v3 r0 fun r1 =>
  xad r1
   (xai 1 v0 v3 fun c2 =>
   call laws_markText [.one v1] fun o3 =>
   xac .neq (atP c2 0) (atP o3 0) fun r4 =>
   xad r4
    (x0k)
    (xac .add v1 (I 1) fun r5 =>
    xac .add v3 (I 1) fun r6 =>
    K [v0,r5,v2,r6]))
   (x1k v0 v1 v2 v3)) v
def Qhj:GM
 | [.one a0,.one a1],k =>
  lp (fun L w=>Qhj_r0 w L
   (rt [.sc] [(I (-1))] k)
   (fun q7 q8 q9 q10=>rt [.sc] [q8] k)) [a0,a1,(I 0),(I 0)]
 | _,_=>False
def Qhj_l:List LE:=[⟨none,0,⟨[(0,.one zB),(1,.one zB),(4,.one zB),(5,.one zB)],[],[],0,22,[]⟩,fun K k v=>Qhj_r0 v K (k .ret ⟨[(4,.one (.pv (I (-1))))],[],[],1,22,[]⟩) (fun x0 x1 x2 x3=>k (.exit 0) ⟨[(0,.one (.pv x0)),(1,.one (.pv x1)),(4,.one (.pv x2)),(5,.one (.pv x3))],[],[],0,22,[]⟩)⟩]
theorem Qhj_s:xaD [laws_markText_e] TT.nofl (kk [0,1,4,5]) Qhj_l f78 Qhj_l:=⟨fun v K k h=>by
 apply xab h;exact fun v0 v1 v2 v3 h=>km h
 ,trivial⟩
theorem Qhj_w:EO ⟨[78],Qhj⟩:=oF (ec laws_markText_w en) (keep:=(kk [0,1,4,5])) (l:=Qhj_l) func78 Qhj_s fun av k h=>by
 unfold Qhj at h;split at h
 ·exact km h
 ·exact h.elim
def Qhk_r0 (v:List PV) (K:List PV→Prop) (x0k:Prop) (x1k:PV→PV→PV→PV→Prop):Prop :=
 un 4 (fun v0 v1 v2 v3 =>
  xaK v0 fun r0 =>
  xac .lss v3 r0 fun r1 =>
  xad r1
   (xai 1 v0 v3 fun c2 =>
   call Qhi [.one (atP c2 0),.one v1] fun o3 =>
   xac .lss (atP o3 0) (I 0) fun r4 =>
   xad r4
    (x0k)
    (xac .add v3 (I 1) fun r5 =>
    K [v0,(atP o3 0),v2,r5]))
   (x1k v0 v1 v2 v3)) v
def Qhk:GM
 | [.one a0,.one a1],k =>
  lp (fun L w=>Qhk_r0 w L
   (rt [.sc] [(I (-1))] k)
   (fun q6 q7 q8 q9=>rt [.sc] [q7] k)) [a0,a1,(I 0),(I 0)]
 | _,_=>False
def Qhk_l:List LE:=[⟨none,0,⟨[(0,.one zB),(1,.one zB),(4,.one zB),(5,.one zB)],[],[],0,21,[]⟩,fun K k v=>Qhk_r0 v K (k .ret ⟨[(4,.one (.pv (I (-1))))],[],[],1,21,[]⟩) (fun x0 x1 x2 x3=>k (.exit 0) ⟨[(0,.one (.pv x0)),(1,.one (.pv x1)),(4,.one (.pv x2)),(5,.one (.pv x3))],[],[],0,21,[]⟩)⟩]
theorem Qhk_s:xaD [⟨[165],Qhi⟩] TT.nofl (kk [0,1,4,5]) Qhk_l f183 Qhk_l:=⟨fun v K k h=>by
 apply xab h;exact fun v0 v1 v2 v3 h=>km h
 ,trivial⟩
theorem Qhk_w:EO ⟨[183],Qhk⟩:=oF (ec Qhi_w en) (keep:=(kk [0,1,4,5])) (l:=Qhk_l) func183 Qhk_s fun av k h=>by
 unfold Qhk at h;split at h
 ·exact km h
 ·exact h.elim
abbrev heldForkS_H:Fr:=⟨[(0,.one zB),(1,.one zB),(4,.one zB),(5,.one zB)],[],[],0,595,[]⟩
abbrev heldForkS_F0:Fr:=⟨[(9,.one (.kb true)),(8,.one zB),(0,.one zB),(1,.one zB),(4,.one zB),(5,.one zB)],[],[],0,595,[]⟩
abbrev heldForkS_F1:Fr:=⟨[(1,.one zB),(123,.one zB),(122,.one zB),(0,.one zB),(4,.one zB),(5,.one zB)],[],[],1,595,[]⟩
abbrev heldForkS_F2:Fr:=⟨[(1,.one zB),(238,.one zB),(237,.one zB),(0,.one zB),(4,.one zB),(5,.one zB)],[],[],4,595,[]⟩
abbrev heldForkS_F3:Fr:=⟨[(1,.one zB),(352,.one zB),(351,.one zB),(0,.one zB),(4,.one zB),(5,.one zB)],[],[],6,595,[]⟩
abbrev heldForkS_F4:Fr:=⟨[(1,.one zB),(465,.one zB),(464,.one zB),(0,.one zB),(4,.one zB),(5,.one zB)],[],[],8,595,[]⟩
abbrev heldForkS_F5:Fr:=⟨[(1,.one zB),(583,.one zB),(582,.one zB),(0,.one zB),(4,.one zB),(5,.one zB)],[],[],11,595,[]⟩
abbrev heldForkS_F6:Fr:=⟨[(593,.one (.kb false)),(592,.one zB),(1,.one zB),(0,.one zB),(4,.one zB),(5,.one zB)],[],[],12,595,[]⟩
abbrev heldForkS_x0 (x0 x1 x2 x3:PV):Fr:=⟨[(0,.one (.pv x0)),(1,.one (.pv x1)),(4,.one (.pv x2)),(5,.one (.pv x3))],[],[],0,595,[]⟩
abbrev heldForkS_x1:Fr:=⟨[(4,.one (.pv (I (-1))))],[],[],0,595,[]⟩
abbrev heldForkS_x2:Fr:=⟨[(4,.one (.pv (I (-1))))],[],[],1,595,[]⟩
abbrev heldForkS_x3:Fr:=⟨[(4,.one (.pv (I (-1))))],[],[],2,595,[]⟩
abbrev heldForkS_x4:Fr:=⟨[(4,.one (.pv (I (-1))))],[],[],3,595,[]⟩
abbrev heldForkS_x5:Fr:=⟨[(4,.one (.pv (I (-1))))],[],[],4,595,[]⟩
abbrev heldForkS_x6:Fr:=⟨[(4,.one (.pv (I (-1))))],[],[],5,595,[]⟩
abbrev heldForkS_x7:Fr:=⟨[(4,.one (.pv (I (-1))))],[],[],6,595,[]⟩
abbrev heldForkS_x8:Fr:=⟨[(4,.one (.pv (I (-1))))],[],[],7,595,[]⟩
abbrev heldForkS_x9:Fr:=⟨[(4,.one (.pv (I (-1))))],[],[],8,595,[]⟩
abbrev heldForkS_x10:Fr:=⟨[(4,.one (.pv (I (-1))))],[],[],9,595,[]⟩
abbrev heldForkS_x11:Fr:=⟨[(4,.one (.pv (I (-1))))],[],[],10,595,[]⟩
abbrev heldForkS_x12:Fr:=⟨[(4,.one (.pv (I (-1))))],[],[],11,595,[]⟩
abbrev heldForkS_x13:Fr:=⟨[(4,.one (.pv (I (-1))))],[],[],12,595,[]⟩
def heldForkS_a (K:PV→PV→PV→PV→PV→Prop) (x0k:PV→PV→PV→PV→Prop) (x1k x2k x3k x4k x5k x6k x7k x8k x9k x10k x11k x12k x13k:Prop) (v0 v1 v2 v3:PV):Prop :=
 xaK v0 fun r0 =>
 xac .lss v3 r0 fun r1 =>
 xad r1
  (K r0 v0 v1 v2 v3)
  (x0k v0 v1 v2 v3)
def heldForkS_p0 (K:PV→PV→PV→PV→PV→PV→Prop) (x0k:PV→PV→PV→PV→Prop) (x1k x2k x3k x4k x5k x6k x7k x8k x9k x10k x11k x12k x13k:Prop) (w0 w1 w2 w3 w4:PV):Prop :=
 xai 51 w1 w4 fun c0 =>
 xac .neq (atP c0 0) w2 fun r1 =>
 xad r1
  (x1k)
  (xac .add w2 (I 1) fun r2 =>
  xai 51 w1 w4 fun c3 =>
  xac .neq (atP c3 1) r2 fun r4 =>
  xad r4
   (x1k)
   (xac .add r2 (I 1) fun r5 =>
   xai 51 w1 w4 fun c6 =>
   xac .neq (atP c6 2) r5 fun r7 =>
   xad r7
    (x1k)
    (xac .add r5 (I 1) fun r8 =>
    xai 51 w1 w4 fun c9 =>
    xac .neq (atP c9 3) r8 fun r10 =>
    xad r10
     (x1k)
     (xac .add r8 (I 1) fun r11 =>
     xai 51 w1 w4 fun c12 =>
     xac .neq (atP c12 4) r11 fun r13 =>
     xad r13
      (x1k)
      (xac .add r11 (I 1) fun r14 =>
      xai 51 w1 w4 fun c15 =>
      xac .neq (atP c15 5) r14 fun r16 =>
      xad r16
       (x1k)
       (xac .add r14 (I 1) fun r17 =>
       xai 51 w1 w4 fun c18 =>
       xac .neq (atP c18 6) r17 fun r19 =>
       xad r19
        (x1k)
        (xac .add r17 (I 1) fun r20 =>
        xai 51 w1 w4 fun c21 =>
        xac .neq (atP c21 7) r20 fun r22 =>
        xad r22
         (x1k)
         (xac .add r20 (I 1) fun r23 =>
         xai 51 w1 w4 fun c24 =>
         call Qhg [.one (atP c24 8),.one r23] fun o25 =>
         xac .lss (atP o25 0) (I 0) fun r26 =>
         xad r26
          (x2k)
          (xai 51 w1 w4 fun c27 =>
          xac .neq (atP c27 9) (atP o25 0) fun r28 =>
          xad r28
           (x2k)
           (xac .add (atP o25 0) (I 1) fun r29 =>
           K r29 r29 (atP o25 0) w1 w3 w4))))))))))
def heldForkS_p1 (K:PV→PV→PV→PV→PV→PV→Prop) (x0k:PV→PV→PV→PV→Prop) (x1k x2k x3k x4k x5k x6k x7k x8k x9k x10k x11k x12k x13k:Prop) (w0 w1 w2 w3 w4 w5:PV):Prop :=
 xai 51 w3 w5 fun c0 =>
 call Qhg [.one (atP c0 10),.one w0] fun o1 =>
 xac .lss (atP o1 0) (I 0) fun r2 =>
 xad r2
  (x3k)
  (xai 51 w3 w5 fun c3 =>
  xac .neq (atP c3 11) (atP o1 0) fun r4 =>
  xad r4
   (x3k)
   (xac .add (atP o1 0) (I 1) fun r5 =>
   xai 51 w3 w5 fun c6 =>
   xac .neq (atP c6 12) r5 fun r7 =>
   xad r7
    (x3k)
    (xac .add r5 (I 1) fun r8 =>
    xai 51 w3 w5 fun c9 =>
    call Qhg [.one (atP c9 13),.one r8] fun o10 =>
    xac .lss (atP o10 0) (I 0) fun r11 =>
    xad r11
     (x4k)
     (xai 51 w3 w5 fun c12 =>
     xac .neq (atP c12 14) (atP o10 0) fun r13 =>
     xad r13
      (x4k)
      (xac .add (atP o10 0) (I 1) fun r14 =>
      xai 51 w3 w5 fun c15 =>
      xac .rem r14 (I 3) fun r16 =>
      xac .eql r16 (I 0) fun r17 =>
      xer .neq (atP c15 15) r17 fun r18 =>
      xad r18
       (x4k)
       (xac .add r14 (I 1) fun r19 =>
       xai 51 w3 w5 fun c20 =>
       call Qhh [.one (atP c20 16),.one r19] fun o21 =>
       xac .lss (atP o21 0) (I 0) fun r22 =>
       xad r22
        (x5k)
        (xai 51 w3 w5 fun c23 =>
        xac .neq (atP c23 17) (atP o21 0) fun r24 =>
        xad r24
         (x5k)
         (xac .add (atP o21 0) (I 1) fun r25 =>
         xai 51 w3 w5 fun c26 =>
         xac .neq (atP c26 18) r25 fun r27 =>
         xad r27
          (x5k)
          (xac .add r25 (I 1) fun r28 =>
          xai 51 w3 w5 fun c29 =>
          xac .neq (atP c29 19) r28 fun r30 =>
          xad r30
           (x5k)
           (xac .add r28 (I 1) fun r31 =>
           K r31 r31 r28 w3 w4 w5))))))))))
def heldForkS_p2 (K:PV→PV→PV→PV→PV→PV→Prop) (x0k:PV→PV→PV→PV→Prop) (x1k x2k x3k x4k x5k x6k x7k x8k x9k x10k x11k x12k x13k:Prop) (w0 w1 w2 w3 w4 w5:PV):Prop :=
 xai 51 w3 w5 fun c0 =>
 xac .neq (atP c0 20) w0 fun r1 =>
 xad r1
  (x5k)
  (xac .add w0 (I 1) fun r2 =>
  xai 51 w3 w5 fun c3 =>
  xac .neq (atP c3 21) r2 fun r4 =>
  xad r4
   (x5k)
   (xac .add r2 (I 1) fun r5 =>
   xai 51 w3 w5 fun c6 =>
   xac .neq (atP c6 22) r5 fun r7 =>
   xad r7
    (x5k)
    (xac .add r5 (I 1) fun r8 =>
    xai 51 w3 w5 fun c9 =>
    xac .neq (atP c9 23) r8 fun r10 =>
    xad r10
     (x5k)
     (xac .add r8 (I 1) fun r11 =>
     xai 51 w3 w5 fun c12 =>
     xac .neq (atP c12 24) r11 fun r13 =>
     xad r13
      (x5k)
      (xac .add r11 (I 1) fun r14 =>
      xai 51 w3 w5 fun c15 =>
      call Qhg [.one (atP c15 25),.one r14] fun o16 =>
      xac .lss (atP o16 0) (I 0) fun r17 =>
      xad r17
       (x6k)
       (xai 51 w3 w5 fun c18 =>
       xac .neq (atP c18 26) (atP o16 0) fun r19 =>
       xad r19
        (x6k)
        (xac .add (atP o16 0) (I 1) fun r20 =>
        xai 51 w3 w5 fun c21 =>
        call Qhg [.one (atP c21 27),.one r20] fun o22 =>
        xac .lss (atP o22 0) (I 0) fun r23 =>
        xad r23
         (x7k)
         (xai 51 w3 w5 fun c24 =>
         xac .neq (atP c24 28) (atP o22 0) fun r25 =>
         xad r25
          (x7k)
          (xac .add (atP o22 0) (I 1) fun r26 =>
          xai 51 w3 w5 fun c27 =>
          xac .neq (atP c27 29) r26 fun r28 =>
          xad r28
           (x7k)
           (xac .add r26 (I 1) fun r29 =>
           K r29 r29 r26 w3 w4 w5))))))))))
def heldForkS_p3 (K:PV→PV→PV→PV→PV→PV→Prop) (x0k:PV→PV→PV→PV→Prop) (x1k x2k x3k x4k x5k x6k x7k x8k x9k x10k x11k x12k x13k:Prop) (w0 w1 w2 w3 w4 w5:PV):Prop :=
 xai 51 w3 w5 fun c0 =>
 call Qhg [.one (atP c0 30),.one w0] fun o1 =>
 xac .lss (atP o1 0) (I 0) fun r2 =>
 xad r2
  (x8k)
  (xai 51 w3 w5 fun c3 =>
  xac .neq (atP c3 31) (atP o1 0) fun r4 =>
  xad r4
   (x8k)
   (xac .add (atP o1 0) (I 1) fun r5 =>
   xai 51 w3 w5 fun c6 =>
   xac .rem r5 (I 3) fun r7 =>
   xac .eql r7 (I 0) fun r8 =>
   xer .neq (atP c6 32) r8 fun r9 =>
   xad r9
    (x8k)
    (xac .add r5 (I 1) fun r10 =>
    xai 51 w3 w5 fun c11 =>
    call Qhh [.one (atP c11 33),.one r10] fun o12 =>
    xac .lss (atP o12 0) (I 0) fun r13 =>
    xad r13
     (x9k)
     (xai 51 w3 w5 fun c14 =>
     xac .neq (atP c14 34) (atP o12 0) fun r15 =>
     xad r15
      (x9k)
      (xac .add (atP o12 0) (I 1) fun r16 =>
      xai 51 w3 w5 fun c17 =>
      xac .neq (atP c17 35) r16 fun r18 =>
      xad r18
       (x9k)
       (xac .add r16 (I 1) fun r19 =>
       xai 51 w3 w5 fun c20 =>
       xac .neq (atP c20 36) r19 fun r21 =>
       xad r21
        (x9k)
        (xac .add r19 (I 1) fun r22 =>
        xai 51 w3 w5 fun c23 =>
        xac .neq (atP c23 37) r22 fun r24 =>
        xad r24
         (x9k)
         (xac .add r22 (I 1) fun r25 =>
         xai 51 w3 w5 fun c26 =>
         xac .neq (atP c26 38) r25 fun r27 =>
         xad r27
          (x9k)
          (xac .add r25 (I 1) fun r28 =>
          xai 51 w3 w5 fun c29 =>
          xac .neq (atP c29 39) r28 fun r30 =>
          xad r30
           (x9k)
           (xac .add r28 (I 1) fun r31 =>
           K r31 r31 r28 w3 w4 w5))))))))))
def heldForkS_p4 (K:PV→PV→PV→PV→PV→PV→Prop) (x0k:PV→PV→PV→PV→Prop) (x1k x2k x3k x4k x5k x6k x7k x8k x9k x10k x11k x12k x13k:Prop) (w0 w1 w2 w3 w4 w5:PV):Prop :=
 xai 51 w3 w5 fun c0 =>
 xac .neq (atP c0 40) w0 fun r1 =>
 xad r1
  (x9k)
  (xac .add w0 (I 1) fun r2 =>
  xai 51 w3 w5 fun c3 =>
  xac .neq (atP c3 41) r2 fun r4 =>
  xad r4
   (x9k)
   (xac .add r2 (I 1) fun r5 =>
   xai 51 w3 w5 fun c6 =>
   call Qhg [.one (atP c6 42),.one r5] fun o7 =>
   xac .lss (atP o7 0) (I 0) fun r8 =>
   xad r8
    (x10k)
    (xai 51 w3 w5 fun c9 =>
    xac .neq (atP c9 43) (atP o7 0) fun r10 =>
    xad r10
     (x10k)
     (xac .add (atP o7 0) (I 1) fun r11 =>
     xai 51 w3 w5 fun c12 =>
     call Qhg [.one (atP c12 44),.one r11] fun o13 =>
     xac .lss (atP o13 0) (I 0) fun r14 =>
     xad r14
      (x11k)
      (xai 51 w3 w5 fun c15 =>
      xac .neq (atP c15 45) (atP o13 0) fun r16 =>
      xad r16
       (x11k)
       (xac .add (atP o13 0) (I 1) fun r17 =>
       xai 51 w3 w5 fun c18 =>
       xac .neq (atP c18 46) r17 fun r19 =>
       xad r19
        (x11k)
        (xac .add r17 (I 1) fun r20 =>
        xai 51 w3 w5 fun c21 =>
        call Qhg [.one (atP c21 47),.one r20] fun o22 =>
        xac .lss (atP o22 0) (I 0) fun r23 =>
        xad r23
         (x12k)
         (xai 51 w3 w5 fun c24 =>
         xac .neq (atP c24 48) (atP o22 0) fun r25 =>
         xad r25
          (x12k)
          (xac .add (atP o22 0) (I 1) fun r26 =>
          xai 51 w3 w5 fun c27 =>
          xac .rem r26 (I 3) fun r28 =>
          xac .eql r28 (I 0) fun r29 =>
          xer .neq (atP c27 49) r29 fun r30 =>
          xad r30
           (x12k)
           (xac .add r26 (I 1) fun r31 =>
           K r31 r31 r26 w3 w4 w5))))))))))
def heldForkS_p5 (K:PV→PV→PV→PV→PV→Prop) (x0k:PV→PV→PV→PV→Prop) (x1k x2k x3k x4k x5k x6k x7k x8k x9k x10k x11k x12k x13k:Prop) (w0 w1 w2 w3 w4 w5:PV):Prop :=
 xai 51 w3 w5 fun c0 =>
 call Qhh [.one (atP c0 50),.one w0] fun o1 =>
 xac .lss (atP o1 0) (I 0) fun r2 =>
 xad r2
  (x13k)
  (K (atP o1 0) (atP o1 0) w3 w4 w5)
def heldForkS_z (K:List PV→Prop) (x0k:PV→PV→PV→PV→Prop) (x1k x2k x3k x4k x5k x6k x7k x8k x9k x10k x11k x12k x13k:Prop) (v0 v1 v2 v3:PV) (w0 w1 w2 w3 w4:PV):Prop :=
 xac .add w4 (I 1) fun r0 =>
 K [w2,w1,w3,r0]
def heldForkS_q6 (K:List PV→Prop) (x0k:PV→PV→PV→PV→Prop) (x1k x2k x3k x4k x5k x6k x7k x8k x9k x10k x11k x12k x13k:Prop) (v0 v1 v2 v3:PV) (w0 w1 w2 w3 w4:PV):Prop:=heldForkS_z K x0k x1k x2k x3k x4k x5k x6k x7k x8k x9k x10k x11k x12k x13k v0 v1 v2 v3 w0 w1 w2 w3 w4
def heldForkS_q5 (K:List PV→Prop) (x0k:PV→PV→PV→PV→Prop) (x1k x2k x3k x4k x5k x6k x7k x8k x9k x10k x11k x12k x13k:Prop) (v0 v1 v2 v3:PV) (w0 w1 w2 w3 w4 w5:PV):Prop:=heldForkS_p5 (fun w0 w1 w2 w3 w4=>heldForkS_q6 K x0k x1k x2k x3k x4k x5k x6k x7k x8k x9k x10k x11k x12k x13k v0 v1 v2 v3 w0 w1 w2 w3 w4) x0k x1k x2k x3k x4k x5k x6k x7k x8k x9k x10k x11k x12k x13k w0 w1 w2 w3 w4 w5
def heldForkS_q4 (K:List PV→Prop) (x0k:PV→PV→PV→PV→Prop) (x1k x2k x3k x4k x5k x6k x7k x8k x9k x10k x11k x12k x13k:Prop) (v0 v1 v2 v3:PV) (w0 w1 w2 w3 w4 w5:PV):Prop:=heldForkS_p4 (fun w0 w1 w2 w3 w4 w5=>heldForkS_q5 K x0k x1k x2k x3k x4k x5k x6k x7k x8k x9k x10k x11k x12k x13k v0 v1 v2 v3 w0 w1 w2 w3 w4 w5) x0k x1k x2k x3k x4k x5k x6k x7k x8k x9k x10k x11k x12k x13k w0 w1 w2 w3 w4 w5
def heldForkS_q3 (K:List PV→Prop) (x0k:PV→PV→PV→PV→Prop) (x1k x2k x3k x4k x5k x6k x7k x8k x9k x10k x11k x12k x13k:Prop) (v0 v1 v2 v3:PV) (w0 w1 w2 w3 w4 w5:PV):Prop:=heldForkS_p3 (fun w0 w1 w2 w3 w4 w5=>heldForkS_q4 K x0k x1k x2k x3k x4k x5k x6k x7k x8k x9k x10k x11k x12k x13k v0 v1 v2 v3 w0 w1 w2 w3 w4 w5) x0k x1k x2k x3k x4k x5k x6k x7k x8k x9k x10k x11k x12k x13k w0 w1 w2 w3 w4 w5
def heldForkS_q2 (K:List PV→Prop) (x0k:PV→PV→PV→PV→Prop) (x1k x2k x3k x4k x5k x6k x7k x8k x9k x10k x11k x12k x13k:Prop) (v0 v1 v2 v3:PV) (w0 w1 w2 w3 w4 w5:PV):Prop:=heldForkS_p2 (fun w0 w1 w2 w3 w4 w5=>heldForkS_q3 K x0k x1k x2k x3k x4k x5k x6k x7k x8k x9k x10k x11k x12k x13k v0 v1 v2 v3 w0 w1 w2 w3 w4 w5) x0k x1k x2k x3k x4k x5k x6k x7k x8k x9k x10k x11k x12k x13k w0 w1 w2 w3 w4 w5
def heldForkS_q1 (K:List PV→Prop) (x0k:PV→PV→PV→PV→Prop) (x1k x2k x3k x4k x5k x6k x7k x8k x9k x10k x11k x12k x13k:Prop) (v0 v1 v2 v3:PV) (w0 w1 w2 w3 w4 w5:PV):Prop:=heldForkS_p1 (fun w0 w1 w2 w3 w4 w5=>heldForkS_q2 K x0k x1k x2k x3k x4k x5k x6k x7k x8k x9k x10k x11k x12k x13k v0 v1 v2 v3 w0 w1 w2 w3 w4 w5) x0k x1k x2k x3k x4k x5k x6k x7k x8k x9k x10k x11k x12k x13k w0 w1 w2 w3 w4 w5
def heldForkS_q0 (K:List PV→Prop) (x0k:PV→PV→PV→PV→Prop) (x1k x2k x3k x4k x5k x6k x7k x8k x9k x10k x11k x12k x13k:Prop) (v0 v1 v2 v3:PV) (w0 w1 w2 w3 w4:PV):Prop:=heldForkS_p0 (fun w0 w1 w2 w3 w4 w5=>heldForkS_q1 K x0k x1k x2k x3k x4k x5k x6k x7k x8k x9k x10k x11k x12k x13k v0 v1 v2 v3 w0 w1 w2 w3 w4 w5) x0k x1k x2k x3k x4k x5k x6k x7k x8k x9k x10k x11k x12k x13k w0 w1 w2 w3 w4
def Qhl_r0 (v:List PV) (K:List PV→Prop) (x0k:PV→PV→PV→PV→Prop) (x1k x2k x3k x4k x5k x6k x7k x8k x9k x10k x11k x12k x13k:Prop):Prop :=
 un 4 (fun v0 v1 v2 v3=>heldForkS_a (fun w0 w1 w2 w3 w4=>heldForkS_q0 K x0k x1k x2k x3k x4k x5k x6k x7k x8k x9k x10k x11k x12k x13k v0 v1 v2 v3 w0 w1 w2 w3 w4) x0k x1k x2k x3k x4k x5k x6k x7k x8k x9k x10k x11k x12k x13k v0 v1 v2 v3) v
def Qhl:GM
 | [.one a0,.one a1],k =>
  lp (fun L w=>Qhl_r0 w L
   (fun q1 q2 q3 q4=>rt [.sc] [q2] k)
   (rt [.sc] [(I (-1))] k)
   (rt [.sc] [(I (-1))] k)
   (rt [.sc] [(I (-1))] k)
   (rt [.sc] [(I (-1))] k)
   (rt [.sc] [(I (-1))] k)
   (rt [.sc] [(I (-1))] k)
   (rt [.sc] [(I (-1))] k)
   (rt [.sc] [(I (-1))] k)
   (rt [.sc] [(I (-1))] k)
   (rt [.sc] [(I (-1))] k)
   (rt [.sc] [(I (-1))] k)
   (rt [.sc] [(I (-1))] k)
   (rt [.sc] [(I (-1))] k)) [a0,a1,(I 0),(I 0)]
 | _,_=>False
def Qhl_l:List LE:=[⟨none,0,⟨[(0,.one zB),(1,.one zB),(4,.one zB),(5,.one zB)],[],[],0,595,[]⟩,fun K k v=>Qhl_r0 v K (fun x0 x1 x2 x3=>k (.exit 0) (heldForkS_x0 x0 x1 x2 x3)) (k .ret heldForkS_x1) (k .ret heldForkS_x2) (k .ret heldForkS_x3) (k .ret heldForkS_x4) (k .ret heldForkS_x5) (k .ret heldForkS_x6) (k .ret heldForkS_x7) (k .ret heldForkS_x8) (k .ret heldForkS_x9) (k .ret heldForkS_x10) (k .ret heldForkS_x11) (k .ret heldForkS_x12) (k .ret heldForkS_x13)⟩]
noncomputable abbrev heldForkS_S (S2:Sums2):=sxL (orac TT.wind [⟨[102],Qhg⟩,⟨[231],Qhh⟩] S2) TT.wind (kk [0,1,4,5]) (S2 none)
noncomputable abbrev heldForkS_T:=xnO (kts (kk [0,1,4,5])) (xpP f184)
noncomputable abbrev heldForkS_c0:Code:=inQ (hdQ (tlQ (xfo f184 0)))
noncomputable abbrev heldForkS_c1:Code:=xkd 20 heldForkS_c0
noncomputable abbrev heldForkS_c2:Code:=xkd 20 heldForkS_c1
noncomputable abbrev heldForkS_c3:Code:=xkd 20 heldForkS_c2
noncomputable abbrev heldForkS_c4:Code:=xkd 20 heldForkS_c3
noncomputable abbrev heldForkS_c5:Code:=xkd 20 heldForkS_c4
theorem heldForkS_a_e (S2:Sums2) (kn:Fr→Prop) (k:Out→Fr→Prop) (v0 v1 v2 v3:PV):heldForkS_a (fun w0 w1 w2 w3 w4=>kn (fill heldForkS_F0 [w0,w1,w2,w3,w4])) (fun x0 x1 x2 x3=>k (.exit 0) (heldForkS_x0 x0 x1 x2 x3)) (k .ret heldForkS_x1) (k .ret heldForkS_x2) (k .ret heldForkS_x3) (k .ret heldForkS_x4) (k .ret heldForkS_x5) (k .ret heldForkS_x6) (k .ret heldForkS_x7) (k .ret heldForkS_x8) (k .ret heldForkS_x9) (k .ret heldForkS_x10) (k .ret heldForkS_x11) (k .ret heldForkS_x12) (k .ret heldForkS_x13) v0 v1 v2 v3=heldForkS_S S2 (.seq (hdQ (xfo f184 0)) .skip) 1 (fill heldForkS_H [v0,v1,v2,v3]) (heldForkS_T kn (xrD (kts (kk [0,1,4,5])) (xpP f184) k) k):=by kernel_rfl
theorem heldForkS_p0_e (S2:Sums2) (kn:Fr→Prop) (ke:Nat→Fr→Prop) (k:Out→Fr→Prop) (w0 w1 w2 w3 w4:PV):heldForkS_p0 (fun w0 w1 w2 w3 w4 w5=>kn (fill heldForkS_F1 [w0,w1,w2,w3,w4,w5])) (fun x0 x1 x2 x3=>k (.exit 0) (heldForkS_x0 x0 x1 x2 x3)) (k .ret heldForkS_x1) (k .ret heldForkS_x2) (k .ret heldForkS_x3) (k .ret heldForkS_x4) (k .ret heldForkS_x5) (k .ret heldForkS_x6) (k .ret heldForkS_x7) (k .ret heldForkS_x8) (k .ret heldForkS_x9) (k .ret heldForkS_x10) (k .ret heldForkS_x11) (k .ret heldForkS_x12) (k .ret heldForkS_x13) w0 w1 w2 w3 w4=heldForkS_S S2 (xgm 20 heldForkS_c0) 1 (fill heldForkS_F0 [w0,w1,w2,w3,w4]) (heldForkS_T kn ke k):=by kernel_rfl
theorem heldForkS_p1_e (S2:Sums2) (kn:Fr→Prop) (ke:Nat→Fr→Prop) (k:Out→Fr→Prop) (w0 w1 w2 w3 w4 w5:PV):heldForkS_p1 (fun w0 w1 w2 w3 w4 w5=>kn (fill heldForkS_F2 [w0,w1,w2,w3,w4,w5])) (fun x0 x1 x2 x3=>k (.exit 0) (heldForkS_x0 x0 x1 x2 x3)) (k .ret heldForkS_x1) (k .ret heldForkS_x2) (k .ret heldForkS_x3) (k .ret heldForkS_x4) (k .ret heldForkS_x5) (k .ret heldForkS_x6) (k .ret heldForkS_x7) (k .ret heldForkS_x8) (k .ret heldForkS_x9) (k .ret heldForkS_x10) (k .ret heldForkS_x11) (k .ret heldForkS_x12) (k .ret heldForkS_x13) w0 w1 w2 w3 w4 w5=heldForkS_S S2 (xgm 20 heldForkS_c1) 1 (fill heldForkS_F1 [w0,w1,w2,w3,w4,w5]) (heldForkS_T kn ke k):=by kernel_rfl
theorem heldForkS_p2_e (S2:Sums2) (kn:Fr→Prop) (ke:Nat→Fr→Prop) (k:Out→Fr→Prop) (w0 w1 w2 w3 w4 w5:PV):heldForkS_p2 (fun w0 w1 w2 w3 w4 w5=>kn (fill heldForkS_F3 [w0,w1,w2,w3,w4,w5])) (fun x0 x1 x2 x3=>k (.exit 0) (heldForkS_x0 x0 x1 x2 x3)) (k .ret heldForkS_x1) (k .ret heldForkS_x2) (k .ret heldForkS_x3) (k .ret heldForkS_x4) (k .ret heldForkS_x5) (k .ret heldForkS_x6) (k .ret heldForkS_x7) (k .ret heldForkS_x8) (k .ret heldForkS_x9) (k .ret heldForkS_x10) (k .ret heldForkS_x11) (k .ret heldForkS_x12) (k .ret heldForkS_x13) w0 w1 w2 w3 w4 w5=heldForkS_S S2 (xgm 20 heldForkS_c2) 1 (fill heldForkS_F2 [w0,w1,w2,w3,w4,w5]) (heldForkS_T kn ke k):=by kernel_rfl
theorem heldForkS_p3_e (S2:Sums2) (kn:Fr→Prop) (ke:Nat→Fr→Prop) (k:Out→Fr→Prop) (w0 w1 w2 w3 w4 w5:PV):heldForkS_p3 (fun w0 w1 w2 w3 w4 w5=>kn (fill heldForkS_F4 [w0,w1,w2,w3,w4,w5])) (fun x0 x1 x2 x3=>k (.exit 0) (heldForkS_x0 x0 x1 x2 x3)) (k .ret heldForkS_x1) (k .ret heldForkS_x2) (k .ret heldForkS_x3) (k .ret heldForkS_x4) (k .ret heldForkS_x5) (k .ret heldForkS_x6) (k .ret heldForkS_x7) (k .ret heldForkS_x8) (k .ret heldForkS_x9) (k .ret heldForkS_x10) (k .ret heldForkS_x11) (k .ret heldForkS_x12) (k .ret heldForkS_x13) w0 w1 w2 w3 w4 w5=heldForkS_S S2 (xgm 20 heldForkS_c3) 1 (fill heldForkS_F3 [w0,w1,w2,w3,w4,w5]) (heldForkS_T kn ke k):=by kernel_rfl
theorem heldForkS_p4_e (S2:Sums2) (kn:Fr→Prop) (ke:Nat→Fr→Prop) (k:Out→Fr→Prop) (w0 w1 w2 w3 w4 w5:PV):heldForkS_p4 (fun w0 w1 w2 w3 w4 w5=>kn (fill heldForkS_F5 [w0,w1,w2,w3,w4,w5])) (fun x0 x1 x2 x3=>k (.exit 0) (heldForkS_x0 x0 x1 x2 x3)) (k .ret heldForkS_x1) (k .ret heldForkS_x2) (k .ret heldForkS_x3) (k .ret heldForkS_x4) (k .ret heldForkS_x5) (k .ret heldForkS_x6) (k .ret heldForkS_x7) (k .ret heldForkS_x8) (k .ret heldForkS_x9) (k .ret heldForkS_x10) (k .ret heldForkS_x11) (k .ret heldForkS_x12) (k .ret heldForkS_x13) w0 w1 w2 w3 w4 w5=heldForkS_S S2 (xgm 20 heldForkS_c4) 1 (fill heldForkS_F4 [w0,w1,w2,w3,w4,w5]) (heldForkS_T kn ke k):=by kernel_rfl
theorem heldForkS_p5_e (S2:Sums2) (kn:Fr→Prop) (ke:Nat→Fr→Prop) (k:Out→Fr→Prop) (w0 w1 w2 w3 w4 w5:PV):heldForkS_p5 (fun w0 w1 w2 w3 w4=>kn (fill heldForkS_F6 [w0,w1,w2,w3,w4])) (fun x0 x1 x2 x3=>k (.exit 0) (heldForkS_x0 x0 x1 x2 x3)) (k .ret heldForkS_x1) (k .ret heldForkS_x2) (k .ret heldForkS_x3) (k .ret heldForkS_x4) (k .ret heldForkS_x5) (k .ret heldForkS_x6) (k .ret heldForkS_x7) (k .ret heldForkS_x8) (k .ret heldForkS_x9) (k .ret heldForkS_x10) (k .ret heldForkS_x11) (k .ret heldForkS_x12) (k .ret heldForkS_x13) w0 w1 w2 w3 w4 w5=heldForkS_S S2 heldForkS_c5 1 (fill heldForkS_F5 [w0,w1,w2,w3,w4,w5]) (heldForkS_T (fun F=>xiz TT.wind.win (kk [0,1,4,5]) F kn) ke k):=by kernel_rfl
abbrev heldForkS_R (S2:Sums2) (K:List PV→Prop) (k:Out→Fr→Prop) (v0 v1 v2 v3:PV) (F:Fr):Prop:=heldForkS_S S2 (tlQ (tlQ (xfo f184 0))) 1 F (heldForkS_T (xuZ (fill heldForkS_H [v0,v1,v2,v3]) heldForkS_H K) (xrD (kts (kk [0,1,4,5])) (xpP f184) k) k)
theorem heldForkS_q6_e (S2:Sums2) (K:List PV→Prop) (k:Out→Fr→Prop) (v0 v1 v2 v3:PV) (w0 w1 w2 w3 w4:PV):heldForkS_q6 K (fun x0 x1 x2 x3=>k (.exit 0) (heldForkS_x0 x0 x1 x2 x3)) (k .ret heldForkS_x1) (k .ret heldForkS_x2) (k .ret heldForkS_x3) (k .ret heldForkS_x4) (k .ret heldForkS_x5) (k .ret heldForkS_x6) (k .ret heldForkS_x7) (k .ret heldForkS_x8) (k .ret heldForkS_x9) (k .ret heldForkS_x10) (k .ret heldForkS_x11) (k .ret heldForkS_x12) (k .ret heldForkS_x13) v0 v1 v2 v3 w0 w1 w2 w3 w4=heldForkS_R S2 K k v0 v1 v2 v3 (fill heldForkS_F6 [w0,w1,w2,w3,w4]):=by kernel_rfl
abbrev heldForkS_B (S2:Sums2) (K:List PV→Prop) (k:Out→Fr→Prop) (v0 v1 v2 v3:PV):Fr→Prop:=fun F=>xiz TT.wind.win (kk [0,1,4,5]) F fun F=>heldForkS_R S2 K k v0 v1 v2 v3 F
theorem heldForkS_q5_e (S2:Sums2) (K:List PV→Prop) (ke:Nat→Fr→Prop) (k:Out→Fr→Prop) (v0 v1 v2 v3:PV) (w0 w1 w2 w3 w4 w5:PV):heldForkS_q5 K (fun x0 x1 x2 x3=>k (.exit 0) (heldForkS_x0 x0 x1 x2 x3)) (k .ret heldForkS_x1) (k .ret heldForkS_x2) (k .ret heldForkS_x3) (k .ret heldForkS_x4) (k .ret heldForkS_x5) (k .ret heldForkS_x6) (k .ret heldForkS_x7) (k .ret heldForkS_x8) (k .ret heldForkS_x9) (k .ret heldForkS_x10) (k .ret heldForkS_x11) (k .ret heldForkS_x12) (k .ret heldForkS_x13) v0 v1 v2 v3 w0 w1 w2 w3 w4 w5=heldForkS_S S2 heldForkS_c5 1 (fill heldForkS_F5 [w0,w1,w2,w3,w4,w5]) (heldForkS_T (heldForkS_B S2 K k v0 v1 v2 v3) ke k) :=
 (congrArg (fun q=>heldForkS_p5 q (fun x0 x1 x2 x3=>k (.exit 0) (heldForkS_x0 x0 x1 x2 x3)) (k .ret heldForkS_x1) (k .ret heldForkS_x2) (k .ret heldForkS_x3) (k .ret heldForkS_x4) (k .ret heldForkS_x5) (k .ret heldForkS_x6) (k .ret heldForkS_x7) (k .ret heldForkS_x8) (k .ret heldForkS_x9) (k .ret heldForkS_x10) (k .ret heldForkS_x11) (k .ret heldForkS_x12) (k .ret heldForkS_x13) w0 w1 w2 w3 w4 w5) (funext fun w0=>funext fun w1=>funext fun w2=>funext fun w3=>funext fun w4=>heldForkS_q6_e S2 K k v0 v1 v2 v3 w0 w1 w2 w3 w4)).trans ((heldForkS_p5_e S2 (fun F=>heldForkS_R S2 K k v0 v1 v2 v3 F) ke k w0 w1 w2 w3 w4 w5))
theorem heldForkS_q4_e (S2:Sums2) (K:List PV→Prop) (ke:Nat→Fr→Prop) (k:Out→Fr→Prop) (v0 v1 v2 v3:PV) (w0 w1 w2 w3 w4 w5:PV):heldForkS_q4 K (fun x0 x1 x2 x3=>k (.exit 0) (heldForkS_x0 x0 x1 x2 x3)) (k .ret heldForkS_x1) (k .ret heldForkS_x2) (k .ret heldForkS_x3) (k .ret heldForkS_x4) (k .ret heldForkS_x5) (k .ret heldForkS_x6) (k .ret heldForkS_x7) (k .ret heldForkS_x8) (k .ret heldForkS_x9) (k .ret heldForkS_x10) (k .ret heldForkS_x11) (k .ret heldForkS_x12) (k .ret heldForkS_x13) v0 v1 v2 v3 w0 w1 w2 w3 w4 w5=heldForkS_S S2 heldForkS_c4 1 (fill heldForkS_F4 [w0,w1,w2,w3,w4,w5]) (heldForkS_T (heldForkS_B S2 K k v0 v1 v2 v3) ke k) :=
 (congrArg (fun q=>heldForkS_p4 q (fun x0 x1 x2 x3=>k (.exit 0) (heldForkS_x0 x0 x1 x2 x3)) (k .ret heldForkS_x1) (k .ret heldForkS_x2) (k .ret heldForkS_x3) (k .ret heldForkS_x4) (k .ret heldForkS_x5) (k .ret heldForkS_x6) (k .ret heldForkS_x7) (k .ret heldForkS_x8) (k .ret heldForkS_x9) (k .ret heldForkS_x10) (k .ret heldForkS_x11) (k .ret heldForkS_x12) (k .ret heldForkS_x13) w0 w1 w2 w3 w4 w5) (funext fun w0=>funext fun w1=>funext fun w2=>funext fun w3=>funext fun w4=>funext fun w5=>heldForkS_q5_e S2 K ke k v0 v1 v2 v3 w0 w1 w2 w3 w4 w5)).trans ((heldForkS_p4_e S2 (fun F=>heldForkS_S S2 heldForkS_c5 1 F (heldForkS_T (heldForkS_B S2 K k v0 v1 v2 v3) ke k)) ke k w0 w1 w2 w3 w4 w5).trans (xeF 20 heldForkS_c4 (by kernel_rfl)))
theorem heldForkS_q3_e (S2:Sums2) (K:List PV→Prop) (ke:Nat→Fr→Prop) (k:Out→Fr→Prop) (v0 v1 v2 v3:PV) (w0 w1 w2 w3 w4 w5:PV):heldForkS_q3 K (fun x0 x1 x2 x3=>k (.exit 0) (heldForkS_x0 x0 x1 x2 x3)) (k .ret heldForkS_x1) (k .ret heldForkS_x2) (k .ret heldForkS_x3) (k .ret heldForkS_x4) (k .ret heldForkS_x5) (k .ret heldForkS_x6) (k .ret heldForkS_x7) (k .ret heldForkS_x8) (k .ret heldForkS_x9) (k .ret heldForkS_x10) (k .ret heldForkS_x11) (k .ret heldForkS_x12) (k .ret heldForkS_x13) v0 v1 v2 v3 w0 w1 w2 w3 w4 w5=heldForkS_S S2 heldForkS_c3 1 (fill heldForkS_F3 [w0,w1,w2,w3,w4,w5]) (heldForkS_T (heldForkS_B S2 K k v0 v1 v2 v3) ke k) :=
 (congrArg (fun q=>heldForkS_p3 q (fun x0 x1 x2 x3=>k (.exit 0) (heldForkS_x0 x0 x1 x2 x3)) (k .ret heldForkS_x1) (k .ret heldForkS_x2) (k .ret heldForkS_x3) (k .ret heldForkS_x4) (k .ret heldForkS_x5) (k .ret heldForkS_x6) (k .ret heldForkS_x7) (k .ret heldForkS_x8) (k .ret heldForkS_x9) (k .ret heldForkS_x10) (k .ret heldForkS_x11) (k .ret heldForkS_x12) (k .ret heldForkS_x13) w0 w1 w2 w3 w4 w5) (funext fun w0=>funext fun w1=>funext fun w2=>funext fun w3=>funext fun w4=>funext fun w5=>heldForkS_q4_e S2 K ke k v0 v1 v2 v3 w0 w1 w2 w3 w4 w5)).trans ((heldForkS_p3_e S2 (fun F=>heldForkS_S S2 heldForkS_c4 1 F (heldForkS_T (heldForkS_B S2 K k v0 v1 v2 v3) ke k)) ke k w0 w1 w2 w3 w4 w5).trans (xeF 20 heldForkS_c3 (by kernel_rfl)))
theorem heldForkS_q2_e (S2:Sums2) (K:List PV→Prop) (ke:Nat→Fr→Prop) (k:Out→Fr→Prop) (v0 v1 v2 v3:PV) (w0 w1 w2 w3 w4 w5:PV):heldForkS_q2 K (fun x0 x1 x2 x3=>k (.exit 0) (heldForkS_x0 x0 x1 x2 x3)) (k .ret heldForkS_x1) (k .ret heldForkS_x2) (k .ret heldForkS_x3) (k .ret heldForkS_x4) (k .ret heldForkS_x5) (k .ret heldForkS_x6) (k .ret heldForkS_x7) (k .ret heldForkS_x8) (k .ret heldForkS_x9) (k .ret heldForkS_x10) (k .ret heldForkS_x11) (k .ret heldForkS_x12) (k .ret heldForkS_x13) v0 v1 v2 v3 w0 w1 w2 w3 w4 w5=heldForkS_S S2 heldForkS_c2 1 (fill heldForkS_F2 [w0,w1,w2,w3,w4,w5]) (heldForkS_T (heldForkS_B S2 K k v0 v1 v2 v3) ke k) :=
 (congrArg (fun q=>heldForkS_p2 q (fun x0 x1 x2 x3=>k (.exit 0) (heldForkS_x0 x0 x1 x2 x3)) (k .ret heldForkS_x1) (k .ret heldForkS_x2) (k .ret heldForkS_x3) (k .ret heldForkS_x4) (k .ret heldForkS_x5) (k .ret heldForkS_x6) (k .ret heldForkS_x7) (k .ret heldForkS_x8) (k .ret heldForkS_x9) (k .ret heldForkS_x10) (k .ret heldForkS_x11) (k .ret heldForkS_x12) (k .ret heldForkS_x13) w0 w1 w2 w3 w4 w5) (funext fun w0=>funext fun w1=>funext fun w2=>funext fun w3=>funext fun w4=>funext fun w5=>heldForkS_q3_e S2 K ke k v0 v1 v2 v3 w0 w1 w2 w3 w4 w5)).trans ((heldForkS_p2_e S2 (fun F=>heldForkS_S S2 heldForkS_c3 1 F (heldForkS_T (heldForkS_B S2 K k v0 v1 v2 v3) ke k)) ke k w0 w1 w2 w3 w4 w5).trans (xeF 20 heldForkS_c2 (by kernel_rfl)))
theorem heldForkS_q1_e (S2:Sums2) (K:List PV→Prop) (ke:Nat→Fr→Prop) (k:Out→Fr→Prop) (v0 v1 v2 v3:PV) (w0 w1 w2 w3 w4 w5:PV):heldForkS_q1 K (fun x0 x1 x2 x3=>k (.exit 0) (heldForkS_x0 x0 x1 x2 x3)) (k .ret heldForkS_x1) (k .ret heldForkS_x2) (k .ret heldForkS_x3) (k .ret heldForkS_x4) (k .ret heldForkS_x5) (k .ret heldForkS_x6) (k .ret heldForkS_x7) (k .ret heldForkS_x8) (k .ret heldForkS_x9) (k .ret heldForkS_x10) (k .ret heldForkS_x11) (k .ret heldForkS_x12) (k .ret heldForkS_x13) v0 v1 v2 v3 w0 w1 w2 w3 w4 w5=heldForkS_S S2 heldForkS_c1 1 (fill heldForkS_F1 [w0,w1,w2,w3,w4,w5]) (heldForkS_T (heldForkS_B S2 K k v0 v1 v2 v3) ke k) :=
 (congrArg (fun q=>heldForkS_p1 q (fun x0 x1 x2 x3=>k (.exit 0) (heldForkS_x0 x0 x1 x2 x3)) (k .ret heldForkS_x1) (k .ret heldForkS_x2) (k .ret heldForkS_x3) (k .ret heldForkS_x4) (k .ret heldForkS_x5) (k .ret heldForkS_x6) (k .ret heldForkS_x7) (k .ret heldForkS_x8) (k .ret heldForkS_x9) (k .ret heldForkS_x10) (k .ret heldForkS_x11) (k .ret heldForkS_x12) (k .ret heldForkS_x13) w0 w1 w2 w3 w4 w5) (funext fun w0=>funext fun w1=>funext fun w2=>funext fun w3=>funext fun w4=>funext fun w5=>heldForkS_q2_e S2 K ke k v0 v1 v2 v3 w0 w1 w2 w3 w4 w5)).trans ((heldForkS_p1_e S2 (fun F=>heldForkS_S S2 heldForkS_c2 1 F (heldForkS_T (heldForkS_B S2 K k v0 v1 v2 v3) ke k)) ke k w0 w1 w2 w3 w4 w5).trans (xeF 20 heldForkS_c1 (by kernel_rfl)))
theorem heldForkS_q0_e (S2:Sums2) (K:List PV→Prop) (ke:Nat→Fr→Prop) (k:Out→Fr→Prop) (v0 v1 v2 v3:PV) (w0 w1 w2 w3 w4:PV):heldForkS_q0 K (fun x0 x1 x2 x3=>k (.exit 0) (heldForkS_x0 x0 x1 x2 x3)) (k .ret heldForkS_x1) (k .ret heldForkS_x2) (k .ret heldForkS_x3) (k .ret heldForkS_x4) (k .ret heldForkS_x5) (k .ret heldForkS_x6) (k .ret heldForkS_x7) (k .ret heldForkS_x8) (k .ret heldForkS_x9) (k .ret heldForkS_x10) (k .ret heldForkS_x11) (k .ret heldForkS_x12) (k .ret heldForkS_x13) v0 v1 v2 v3 w0 w1 w2 w3 w4=heldForkS_S S2 heldForkS_c0 1 (fill heldForkS_F0 [w0,w1,w2,w3,w4]) (heldForkS_T (heldForkS_B S2 K k v0 v1 v2 v3) ke k) :=
 (congrArg (fun q=>heldForkS_p0 q (fun x0 x1 x2 x3=>k (.exit 0) (heldForkS_x0 x0 x1 x2 x3)) (k .ret heldForkS_x1) (k .ret heldForkS_x2) (k .ret heldForkS_x3) (k .ret heldForkS_x4) (k .ret heldForkS_x5) (k .ret heldForkS_x6) (k .ret heldForkS_x7) (k .ret heldForkS_x8) (k .ret heldForkS_x9) (k .ret heldForkS_x10) (k .ret heldForkS_x11) (k .ret heldForkS_x12) (k .ret heldForkS_x13) w0 w1 w2 w3 w4) (funext fun w0=>funext fun w1=>funext fun w2=>funext fun w3=>funext fun w4=>funext fun w5=>heldForkS_q1_e S2 K ke k v0 v1 v2 v3 w0 w1 w2 w3 w4 w5)).trans ((heldForkS_p0_e S2 (fun F=>heldForkS_S S2 heldForkS_c1 1 F (heldForkS_T (heldForkS_B S2 K k v0 v1 v2 v3) ke k)) ke k w0 w1 w2 w3 w4).trans (xeF 20 heldForkS_c0 (by kernel_rfl)))
theorem heldForkS_e (S2:Sums2) (K:List PV→Prop) (k:Out→Fr→Prop) (v0 v1 v2 v3:PV):heldForkS_a (fun w0 w1 w2 w3 w4=>heldForkS_q0 K (fun x0 x1 x2 x3=>k (.exit 0) (heldForkS_x0 x0 x1 x2 x3)) (k .ret heldForkS_x1) (k .ret heldForkS_x2) (k .ret heldForkS_x3) (k .ret heldForkS_x4) (k .ret heldForkS_x5) (k .ret heldForkS_x6) (k .ret heldForkS_x7) (k .ret heldForkS_x8) (k .ret heldForkS_x9) (k .ret heldForkS_x10) (k .ret heldForkS_x11) (k .ret heldForkS_x12) (k .ret heldForkS_x13) v0 v1 v2 v3 w0 w1 w2 w3 w4) (fun x0 x1 x2 x3=>k (.exit 0) (heldForkS_x0 x0 x1 x2 x3)) (k .ret heldForkS_x1) (k .ret heldForkS_x2) (k .ret heldForkS_x3) (k .ret heldForkS_x4) (k .ret heldForkS_x5) (k .ret heldForkS_x6) (k .ret heldForkS_x7) (k .ret heldForkS_x8) (k .ret heldForkS_x9) (k .ret heldForkS_x10) (k .ret heldForkS_x11) (k .ret heldForkS_x12) (k .ret heldForkS_x13) v0 v1 v2 v3=xhK (fun F k=>sxL (orac TT.wind [⟨[102],Qhg⟩,⟨[231],Qhh⟩] S2) TT.wind (kk [0,1,4,5]) (S2 none) (xfo f184 0) 1 F k) (fun o F=>k o (xjG (kts (kk [0,1,4,5])) (xpP f184) o F)) (fun F=>chk heldForkS_H F K) (fill heldForkS_H [v0,v1,v2,v3]):=by
 obtain ⟨ke,h⟩:=xoq (C:=(orac TT.wind [⟨[102],Qhg⟩,⟨[231],Qhh⟩] S2)) (T:=TT.wind) (keep:=(kk [0,1,4,5])) (S:=S2 none) (ks:=kts (kk [0,1,4,5])) (rs:=xpP f184) (kn:=xuZ (fill heldForkS_H [v0,v1,v2,v3]) heldForkS_H K) (k:=k) (i:=1) (b:=1) (F:=fill heldForkS_H [v0,v1,v2,v3]) (xfo f184 0) (by kernel_rfl) (by kernel_rfl) (by kernel_rfl)
 rw [xp7,←h]
 exact (congrArg (fun q=>heldForkS_a q (fun x0 x1 x2 x3=>k (.exit 0) (heldForkS_x0 x0 x1 x2 x3)) (k .ret heldForkS_x1) (k .ret heldForkS_x2) (k .ret heldForkS_x3) (k .ret heldForkS_x4) (k .ret heldForkS_x5) (k .ret heldForkS_x6) (k .ret heldForkS_x7) (k .ret heldForkS_x8) (k .ret heldForkS_x9) (k .ret heldForkS_x10) (k .ret heldForkS_x11) (k .ret heldForkS_x12) (k .ret heldForkS_x13) v0 v1 v2 v3) (funext fun w0=>funext fun w1=>funext fun w2=>funext fun w3=>funext fun w4=>heldForkS_q0_e S2 K ke k v0 v1 v2 v3 w0 w1 w2 w3 w4)).trans (heldForkS_a_e S2 (fun F=>heldForkS_S S2 heldForkS_c0 1 F (heldForkS_T (heldForkS_B S2 K k v0 v1 v2 v3) ke k)) k v0 v1 v2 v3)
theorem Qhl_s:xaD [⟨[102],Qhg⟩,⟨[231],Qhh⟩] TT.wind (kk [0,1,4,5]) Qhl_l f184 Qhl_l:=⟨fun v K k h=>by
 apply xab h;exact fun v0 v1 v2 v3 h=>(heldForkS_e _ K k v0 v1 v2 v3).mp h
 ,trivial⟩
theorem Qhl_w:EO ⟨[184],Qhl⟩:=oW (ec Qhg_w (ec Qhh_w en)) (keep:=(kk [0,1,4,5])) (l:=Qhl_l) func184 Qhl_s fun av k h=>by
 unfold Qhl at h;split at h
 ·exact km h
 ·exact h.elim
def Qhm:GM
 | [.agg u0,.one a2],k=>un 2 (fun a0 a1 =>
  call Qhk [.one a0,.one a2] fun o0 =>
  xac .lss (atP o0 0) (I 0) fun r1 =>
  xad r1
   (rt [.sc] [(I (-1))] k)
   (call Qhl [.one a1,.one (atP o0 0)] fun o2 =>
   xac .lss (atP o2 0) (I 0) fun r3 =>
   xad r3
    (rt [.sc] [(I (-1))] k)
    (rt [.sc] [(atP o2 0)] k))) u0
 | _,_=>False
theorem Qhm_w:EO ⟨[100],Qhm⟩:=oFz (ec Qhk_w (ec Qhl_w en)) func100 fun av k h=>by
 unfold Qhm at h;split at h
 ·apply xab h;clear h;intro a0 a1 h;exact km h
 ·exact h.elim
def Qhn:GM
 | [.one a0],k =>
  call Qdc [.one a0] fun o0 =>
  call Qcb [.one (atP o0 0)] fun o1 =>
  xac .rem (atP o1 0) (I 4) fun r2 =>
  rt [.sc] [r2] k
 | _,_=>False
theorem Qhn_w:EO ⟨[169],Qhn⟩:=oNz (ec Qdc_w (ec Qcb_w en)) func169 fun av k h=>by
 unfold Qhn at h;split at h
 ·exact km h
 ·exact h.elim
def Qho:GM
 | [.one a0,.one a1],k =>
  call Qhn [.one a1] fun o0 =>
  rt [.sc,.sc] [a0,(atP o0 0)] k
 | _,_=>False
theorem Qho_w:EO ⟨[84],Qho⟩:=oNz (ec Qhn_w en) func84 fun av k h=>by
 unfold Qho at h;split at h
 ·exact km h
 ·exact h.elim
def Qhp_r0 (v:List PV) (K:List PV→Prop) (x0k:PV→Prop) (x1k:Cur 5):Prop :=
 un 5 (fun v0 v1 v2 v3 v4 =>
  xaK v3 fun r0 =>
  xac .lss v2 r0 fun r1 =>
  xad r1
   (xai 2 v3 v2 fun c2 =>
   call Qdn [.agg [(atP c2 0),(atP c2 1)]] fun o3 =>
   xac .eql (atP o3 0) v0 fun r4 =>
   xad r4
    (xac .geq v0 (I 0) fun r5 =>
    xad r5
     (x0k v2)
     (xac .add v2 (I 1) fun r6 =>
     K [v0,v1,r6,v3,v4]))
    (xac .add v2 (I 1) fun r7 =>
    K [v0,v1,r7,v3,v4]))
   (x1k v0 v1 v2 v3 v4)) v
def Qhp:GM
 | [.agg u0,.one a2],k=>un 2 (fun a0 a1 =>
  lp (fun L w=>Qhp_r0 w L
   (fun q8=>rt [.sc] [q8] k)
   (fun q9 q10 q11 q12 q13=>rt [.sc] [(I (-1))] k)) [a2,(I 0),(I 0),a0,a1]) u0
 | _,_=>False
def Qhp_l:List LE:=[⟨none,0,⟨[(1,.one zB),(2,.one (.ptr 0 0)),(4,.one zB),(5,.one zB)],[(0,[zB,zB])],[],1,26,[]⟩,fun K k v=>Qhp_r0 v K (fun x0=>k .ret ⟨[(4,.one (.pv x0))],[],[],2,26,[]⟩) (fun x0 x1 x2 x3 x4=>k (.exit 0) ⟨[(1,.one (.pv x0)),(2,.one (.ptr 0 0)),(4,.one (.pv x1)),(5,.one (.pv x2))],[(0,[.pv x3,.pv x4])],[],1,26,[]⟩)⟩]
theorem Qhp_s:xaD [⟨[110],Qdn⟩] TT (kk [1,2,4,5,22,23,999999]) Qhp_l f168 Qhp_l:=⟨fun v K k h=>by
 apply xab h;exact fun v0 v1 v2 v3 v4 h=>km h
 ,trivial⟩
theorem Qhp_w:EO ⟨[168],Qhp⟩:=oN (ec Qdn_w en) (keep:=(kk [1,2,4,5,22,23,999999])) (l:=Qhp_l) func168 Qhp_s fun av k h=>by
 unfold Qhp at h;split at h
 ·apply xab h;clear h;intro a0 a1 h;exact km h
 ·exact h.elim
def Qhq_r0 (v:List PV) (K:List PV→Prop) (x0k:PV→Prop) (x1k:Cur 4):Prop :=
 un 4 (fun v0 v1 v2 v3 =>
  xaK v0 fun r0 =>
  xac .lss v3 r0 fun r1 =>
  xad r1
   (xai 4 v0 v3 fun c2 =>
   xac .eql (atP c2 0) v1 fun r3 =>
   xad r3
    (x0k v3)
    (xac .add v3 (I 1) fun r4 =>
    K [v0,v1,v2,r4]))
   (x1k v0 v1 v2 v3)) v
def Qhq:GM
 | [.one a0,.one a1],k =>
  lp (fun L w=>Qhq_r0 w L
   (fun q5=>rt [.sc] [q5] k)
   (fun q6 q7 q8 q9=>rt [.sc] [(I (-1))] k)) [a0,a1,(I 0),(I 0)]
 | _,_=>False
def Qhq_l:List LE:=[⟨none,0,⟨[(0,.one zB),(1,.one zB),(4,.one zB),(5,.one zB)],[],[],0,20,[]⟩,fun K k v=>Qhq_r0 v K (fun x0=>k .ret ⟨[(4,.one (.pv x0))],[],[],0,20,[]⟩) (fun x0 x1 x2 x3=>k (.exit 0) ⟨[(0,.one (.pv x0)),(1,.one (.pv x1)),(4,.one (.pv x2)),(5,.one (.pv x3))],[],[],0,20,[]⟩)⟩]
theorem Qhq_s:xaD [] TT (kk [0,1,4,5,999999]) Qhq_l f293 Qhq_l:=⟨fun v K k h=>by
 apply xab h;exact fun v0 v1 v2 v3 h=>km h
 ,trivial⟩
theorem Qhq_w:EO ⟨[293],Qhq⟩:=oN en (keep:=(kk [0,1,4,5,999999])) (l:=Qhq_l) func293 Qhq_s fun av k h=>by
 unfold Qhq at h;split at h
 ·exact km h
 ·exact h.elim
def Qhr_r0 (v:List PV) (K:List PV→Prop) (x0k:Cur 4):Prop :=
 un 4 (fun v0 v1 v2 v3 =>
  xaK v1 fun r0 =>
  xac .gtr r0 (I 1) fun r1 =>
  xad r1
   (xac .add v0 (I 1) fun r2 =>
   xac .rem v0 (I 2) fun r3 =>
   xac .mul (I 2) r3 fun r4 =>
   xac .sub r2 r4 fun r5 =>
   xaK v1 fun r6 =>
   xac .lss r5 r6 fun r7 =>
   xad r7
    (xai 1 v1 r5 fun c8 =>
    (1=1)∧(1≤16777216)∧(1=1)∧(0=0)∧(1=1)∧(xae [.pv (I 0)] [.pv (atP c8 0)])∧xbA 1 v3 (.list 1 [[(atP c8 0)]]) fun r9 =>
    call Qdh [.one v1] fun o10 =>
    xac .quo v0 (I 2) fun r11 =>
    K [r11,(atP o10 0),v2,r9])
    (call Qdh [.one v1] fun o12 =>
    xac .quo v0 (I 2) fun r13 =>
    K [r13,(atP o12 0),v2,v3]))
   (x0k v0 v1 v2 v3)) v
def Qhr:GM
 | [.one a0,.one a1],k =>
  (0=0)∧(0≤16777216)∧(1=1)∧xaK a0 fun r0 =>
  xac .sub r0 (I 1) fun r1 =>
  call Qbv [.one a1,.one (I 0),.one r1] fun o2 =>
  unP .not (atP o2 0) fun r3 =>
  xad r3
   (rt [.own true 3 1] [(.list 1 [])] k)
   (lp (fun L w=>Qhr_r0 w L
    (fun q14 q15 q16 q17=>rt [.own true 3 1] [q17] k)) [a1,a0,(.list 1 []),(.list 1 [])])
 | _,_=>False
def Qhr_l:List LE:=[⟨none,0,⟨[(1,.one zB),(4,.one (.own 2)),(5,.one (.own 0)),(6,.one zB)],[],[(2,⟨.deep,3,1,(.bool false)⟩),(0,⟨.deep,3,1,(.bool false)⟩)],3,42,[]⟩,fun K k v=>Qhr_r0 v K (fun x0 x1 x2 x3=>k (.exit 0) ⟨[(1,.one (.pv x0)),(4,.one (.own 2)),(5,.one (.own 0)),(6,.one (.pv x1))],[],[(2,⟨.deep,3,1,x2⟩),(0,⟨.deep,3,1,x3⟩)],3,42,[]⟩)⟩]
theorem Qhr_s:xaD [⟨[133],Qbv⟩,⟨[362],Qdh⟩] TT (kk [1,4,5,6,999999]) Qhr_l f346 Qhr_l:=⟨fun v K k h=>by
 apply xab h;exact fun v0 v1 v2 v3 h=>km h
 ,trivial⟩
theorem Qhr_w:EO ⟨[346],Qhr⟩:=oN (ec Qbv_w (ec Qdh_w en)) (keep:=(kk [1,4,5,6,999999])) (l:=Qhr_l) func346 Qhr_s fun av k h=>by
 unfold Qhr at h;split at h
 ·exact km h
 ·exact h.elim
def Qhs:GM
 | [.one a0,.one a1],k =>
  call Qhq [.one a0,.one a1] fun o0 =>
  xac .lss (atP o0 0) (I 0) fun r1 =>
  xad r1
   (rt [.sc,.pv,.sc] [(I 0),(.list 1 []),(.bool false)] k)
   (call Qdf [.one a0] fun o2 =>
   call Qhr [.one (atP o2 0),.one (atP o0 0)] fun o3 =>
   rt [.sc,.pv,.sc] [(atP o0 0),(atP o3 0),(.bool true)] k)
 | _,_=>False
theorem Qhs_w:EO ⟨[294],Qhs⟩:=oNz (ec Qhq_w (ec Qdf_w (ec Qhr_w en))) func294 fun av k h=>by
 unfold Qhs at h;split at h
 ·exact km h
 ·exact h.elim
def Qht_r0 (v:List PV) (K:List PV→Prop) (x0k:Cur 5):Prop :=
 un 5 (fun v0 v1 v2 v3 v4 =>
  xaK v0 fun r0 =>
  xac .lss v4 r0 fun r1 =>
  xad r1
   (xai 4 v0 v4 fun c2 =>
   call Qcz [.one (atP c2 0),.one v1] fun o3 =>
   xac .lss (atP o3 0) (I 0) fun r4 =>
   xad r4
    (xac .add v3 (I 1) fun r5 =>
    xac .add v4 (I 1) fun r6 =>
    K [v0,v1,v2,r5,r6])
    (xac .add v4 (I 1) fun r7 =>
    K [v0,v1,v2,v3,r7]))
   (x0k v0 v1 v2 v3 v4)) v
def Qht:GM
 | [.one a0,.one a1],k =>
  lp (fun L w=>Qht_r0 w L
   (fun q8 q9 q10 q11 q12=>rt [.sc] [q11] k)) [a0,a1,(I 0),(I 0),(I 0)]
 | _,_=>False
def Qht_l:List LE:=[⟨none,0,⟨[(0,.one zB),(1,.one zB),(4,.one zB),(5,.one zB),(6,.one zB)],[],[],0,24,[]⟩,fun K k v=>Qht_r0 v K (fun x0 x1 x2 x3 x4=>k (.exit 0) ⟨[(0,.one (.pv x0)),(1,.one (.pv x1)),(4,.one (.pv x2)),(5,.one (.pv x3)),(6,.one (.pv x4))],[],[],0,24,[]⟩)⟩]
theorem Qht_s:xaD [⟨[312],Qcz⟩] TT (kk [0,1,4,5,6,999999]) Qht_l f347 Qht_l:=⟨fun v K k h=>by
 apply xab h;exact fun v0 v1 v2 v3 v4 h=>km h
 ,trivial⟩
theorem Qht_w:EO ⟨[347],Qht⟩:=oN (ec Qcz_w en) (keep:=(kk [0,1,4,5,6,999999])) (l:=Qht_l) func347 Qht_s fun av k h=>by
 unfold Qht at h;split at h
 ·exact km h
 ·exact h.elim
def Qhu:GM
 | [.one a0,.one a1],k =>
  call Qda [.one a0] fun o0 =>
  unP .not (atP o0 0) fun r1 =>
  xad r1
   (rt g4 [(I 0),(.str ⟨#[]⟩),(I 0),(I 0),(.list 1 []),(.str ⟨#[]⟩),(I 0),(I 0),(.list 1 []),(I 0),(.list 1 []),(I 0),(.list 1 []),(.bool false)] k)
   (call Qcw [.one a1] fun o2 =>
   unP .not (atP o2 0) fun r3 =>
   xad r3
    (rt g4 [(I 0),(.str ⟨#[]⟩),(I 0),(I 0),(.list 1 []),(.str ⟨#[]⟩),(I 0),(I 0),(.list 1 []),(I 0),(.list 1 []),(I 0),(.list 1 []),(.bool false)] k)
    (call Qhq [.one a0,.one a1] fun o4 =>
    xac .geq (atP o4 0) (I 0) fun r5 =>
    xad r5
     (rt g4 [(I 0),(.str ⟨#[]⟩),(I 0),(I 0),(.list 1 []),(.str ⟨#[]⟩),(I 0),(I 0),(.list 1 []),(I 0),(.list 1 []),(I 0),(.list 1 []),(.bool false)] k)
     (call Qht [.one a0,.one a1] fun o6 =>
     xac .gtr (atP o6 0) (I 0) fun r7 =>
     xad r7
      (xac .sub (atP o6 0) (I 1) fun r8 =>
      xai 4 a0 r8 fun c9 =>
      call Qbr [.agg (s4 c9)] fun o10 =>
      xac .sub (atP o6 0) (I 1) fun r11 =>
      xai 4 a0 r11 fun c12 =>
      call Qhs [.one a0,.one (atP c12 0)] fun o13 =>
      xaK a0 fun r14 =>
      xac .lss (atP o6 0) r14 fun r15 =>
      xad r15
       (xai 4 a0 (atP o6 0) fun c16 =>
       call Qbr [.agg (s4 c16)] fun o17 =>
       xai 4 a0 (atP o6 0) fun c18 =>
       call Qhs [.one a0,.one (atP c18 0)] fun o19 =>
       rt g4 [(atP o6 0),(atP o10 0),(atP o10 1),(atP o10 2),(atP o10 3),(atP o17 0),(atP o17 1),(atP o17 2),(atP o17 3),(atP o13 0),(atP o13 1),(atP o19 0),(atP o19 1),(.bool true)] k)
       (rt g4 [(atP o6 0),(atP o10 0),(atP o10 1),(atP o10 2),(atP o10 3),(.str ⟨#[]⟩),(I 0),(I 0),(.list 1 []),(atP o13 0),(atP o13 1),(I 0),(.list 1 []),(.bool true)] k))
      (xaK a0 fun r20 =>
      xac .lss (atP o6 0) r20 fun r21 =>
      xad r21
       (xai 4 a0 (atP o6 0) fun c22 =>
       call Qbr [.agg (s4 c22)] fun o23 =>
       xai 4 a0 (atP o6 0) fun c24 =>
       call Qhs [.one a0,.one (atP c24 0)] fun o25 =>
       rt g4 [(atP o6 0),(.str ⟨#[]⟩),(I 0),(I 0),(.list 1 []),(atP o23 0),(atP o23 1),(atP o23 2),(atP o23 3),(I 0),(.list 1 []),(atP o25 0),(atP o25 1),(.bool true)] k)
       (rt g4 [(atP o6 0),(.str ⟨#[]⟩),(I 0),(I 0),(.list 1 []),(.str ⟨#[]⟩),(I 0),(I 0),(.list 1 []),(I 0),(.list 1 []),(I 0),(.list 1 []),(.bool true)] k)))))
 | _,_=>False
theorem Qhu_w:EO ⟨[295],Qhu⟩:=oNz (ec Qda_w (ec Qcw_w (ec Qhq_w (ec Qht_w (ec Qbr_w (ec Qhs_w en)))))) func295 fun av k h=>by
 unfold Qhu at h;split at h
 ·exact km h
 ·exact h.elim
def Qhv:GM
 | [.agg u0,.one a2],k=>un 2 (fun a0 a1 =>
  call Qdm [.agg [a0,a1]] fun o0 =>
  unP .not (atP o0 0) fun r1 =>
  xad r1
   (rt g2 [(.list 17 []),(.bool false),(.str ⟨#[]⟩),(I 0),(I 0),(.list 1 []),(I 0),(.list 1 []),(I 0),(.str ⟨#[]⟩),(I 0),(I 0),(.list 1 []),(.str ⟨#[]⟩),(I 0),(I 0),(.list 1 []),(I 0),(.list 1 []),(I 0),(.list 1 [])] k)
   (call Qcw [.one a2] fun o2 =>
   unP .not (atP o2 0) fun r3 =>
   xad r3
    (rt g2 [(.list 17 []),(.bool false),(.str ⟨#[]⟩),(I 0),(I 0),(.list 1 []),(I 0),(.list 1 []),(I 0),(.str ⟨#[]⟩),(I 0),(I 0),(.list 1 []),(.str ⟨#[]⟩),(I 0),(I 0),(.list 1 []),(I 0),(.list 1 []),(I 0),(.list 1 [])] k)
    (call Qbn [.one a0] fun o4 =>
    call Qhq [.one a1,.one a2] fun o5 =>
    xac .geq (atP o5 0) (I 0) fun r6 =>
    xad r6
     (xai 4 a1 (atP o5 0) fun c7 =>
     call Qbr [.agg (s4 c7)] fun o8 =>
     call Qhs [.one a1,.one a2] fun o9 =>
     rt g2 [(atP o4 0),(.bool true),(atP o8 0),(atP o8 1),(atP o8 2),(atP o8 3),(atP o9 0),(atP o9 1),(I 0),(.str ⟨#[]⟩),(I 0),(I 0),(.list 1 []),(.str ⟨#[]⟩),(I 0),(I 0),(.list 1 []),(I 0),(.list 1 []),(I 0),(.list 1 [])] k)
     (call Qhu [.one a1,.one a2] fun o10 =>
     rt g2 [(atP o4 0),(.bool false),(.str ⟨#[]⟩),(I 0),(I 0),(.list 1 []),(I 0),(.list 1 []),(atP o10 0),(atP o10 1),(atP o10 2),(atP o10 3),(atP o10 4),(atP o10 5),(atP o10 6),(atP o10 7),(atP o10 8),(atP o10 9),(atP o10 10),(atP o10 11),(atP o10 12)] k)))) u0
 | _,_=>False
theorem Qhv_w:EO ⟨[236],Qhv⟩:=oNz (ec Qdm_w (ec Qcw_w (ec Qbn_w (ec Qhq_w (ec Qbr_w (ec Qhs_w (ec Qhu_w en))))))) func236 fun av k h=>by
 unfold Qhv at h;split at h
 ·apply xab h;clear h;intro a0 a1 h;exact km h
 ·exact h.elim
def Qhw:GM
 | [.agg u0,.one a2,.one a3],k=>un 2 (fun a0 a1 =>
  call Qhp [.agg [a0,a1],.one a2] fun o0 =>
  xac .lss (atP o0 0) (I 0) fun r1 =>
  xad r1
   (rt g2 [(.list 17 []),(.bool false),(.str ⟨#[]⟩),(I 0),(I 0),(.list 1 []),(I 0),(.list 1 []),(I 0),(.str ⟨#[]⟩),(I 0),(I 0),(.list 1 []),(.str ⟨#[]⟩),(I 0),(I 0),(.list 1 []),(I 0),(.list 1 []),(I 0),(.list 1 [])] k)
   (xac .eql a1 (I 4) fun r2 =>
   xad r2
    (rt g2 [(.list 17 []),(.bool false),(.str ⟨#[]⟩),(I 0),(I 0),(.list 1 []),(I 0),(.list 1 []),(I 0),(.str ⟨#[]⟩),(I 0),(I 0),(.list 1 []),(.str ⟨#[]⟩),(I 0),(I 0),(.list 1 []),(I 0),(.list 1 []),(I 0),(.list 1 [])] k)
    (xai 2 a0 (atP o0 0) fun c3 =>
    call Qhv [.agg [(atP c3 0),(atP c3 1)],.one a3] fun o4 =>
    xac .eql a1 (I 1) fun r5 =>
    xad r5
     (xac .add (atP o4 4) (I 1) fun r6 =>
     rt g2 [(atP o4 0),(atP o4 1),(atP o4 2),(atP o4 3),r6,(atP o4 5),(atP o4 6),(atP o4 7),(atP o4 8),(atP o4 9),(atP o4 10),(atP o4 11),(atP o4 12),(atP o4 13),(atP o4 14),(atP o4 15),(atP o4 16),(atP o4 17),(atP o4 18),(atP o4 19),(atP o4 20)] k)
     (xac .eql a1 (I 2) fun r7 =>
     xad r7
      (xaK (atP o4 0) fun r8 =>
      xac .gtr r8 (I 0) fun r9 =>
      xad r9
       (xaK (atP o4 0) fun r10 =>
       xac .sub r10 (I 1) fun r11 =>
       xlZ r11 fun n12 =>
       xkg 17 (atP o4 0) none (some n12) fun r13 =>
       rt g2 [r13,(atP o4 1),(atP o4 2),(atP o4 3),(atP o4 4),(atP o4 5),(atP o4 6),(atP o4 7),(atP o4 8),(atP o4 9),(atP o4 10),(atP o4 11),(atP o4 12),(atP o4 13),(atP o4 14),(atP o4 15),(atP o4 16),(atP o4 17),(atP o4 18),(atP o4 19),(atP o4 20)] k)
       (rt g2 (s21 o4) k))
      (xac .eql a1 (I 3) fun r14 =>
      xad r14
       (rt g2 [(atP o4 0),(.bool false),(.str ⟨#[]⟩),(I 0),(I 0),(.list 1 []),(I 0),(.list 1 []),(I 0),(.str ⟨#[]⟩),(I 0),(I 0),(.list 1 []),(.str ⟨#[]⟩),(I 0),(I 0),(.list 1 []),(I 0),(.list 1 []),(I 0),(.list 1 [])] k)
       (rt g2 (s21 o4) k)))))) u0
 | _,_=>False
theorem Qhw_w:EO ⟨[170],Qhw⟩:=oNz (ec Qhp_w (ec Qhv_w en)) func170 fun av k h=>by
 unfold Qhw at h;split at h
 ·apply xab h;clear h;intro a0 a1 h;exact km h
 ·exact h.elim
def Qhx_r0 (v:List PV) (K:List PV→Prop) (x0k:Cur 8):Prop :=
 un 8 (fun v0 v1 v2 v3 v4 v5 v6 v7 =>
  xaK v0 fun r0 =>
  xac .lss v1 r0 fun r1 =>
  xad r1
   (xai 4 v0 v1 fun c2 =>
   call Qhn [.one (atP c2 0)] fun o3 =>
   xac .eql (atP o3 0) v3 fun r4 =>
   xad r4
    (xai 4 v0 v1 fun c5 =>
    call Qhw [.agg [v4,v5],.one v2,.one (atP c5 0)] fun o6 =>
    (1=1)∧(21≤16777216)∧(21=21)∧(0=0)∧(21=21)∧xbA 21 v7 (.list 21 [(s21 o6)]) fun r7 =>
    xac .add v1 (I 1) fun r8 =>
    K [v0,r8,v2,v3,v4,v5,v6,r7])
    (xac .add v1 (I 1) fun r9 =>
    K [v0,r9,v2,v3,v4,v5,v6,v7]))
   (x0k v0 v1 v2 v3 v4 v5 v6 v7)) v
def Qhx:GM
 | [.agg u0,.agg u1],k=>un 2 (fun a0 a1=>un 2 (fun a2 a3 =>
  (0=0)∧(0≤16777216)∧(21=21)∧call Qhp [.agg [a0,a1],.one a2] fun o0 =>
  xac .lss (atP o0 0) (I 0) fun r1 =>
  xad r1
   (rt [.pv] [(.list 21 [])] k)
   (xai 2 a0 (atP o0 0) fun c2 =>
   lp (fun L w=>Qhx_r0 w L
    (fun q10 q11 q12 q13 q14 q15 q16 q17=>rt [.pv] [q17] k)) [(atP c2 1),(I 0),a2,a3,a0,a1,(.list 21 []),(.list 21 [])])) u1) u0
 | _,_=>False
def Qhx_l:List LE:=[⟨none,0,⟨[(2,.one (.ptr 0 0)),(3,.one (.ptr 1 0)),(4,.one (.own 4)),(5,.one (.own 2)),(7,.one zB),(8,.one zB)],[(1,[zB,zB]),(0,[zB,zB])],[(4,⟨.flat,150,21,(.bool false)⟩),(2,⟨.flat,150,21,(.bool false)⟩)],5,51,[]⟩,fun K k v=>Qhx_r0 v K (fun x0 x1 x2 x3 x4 x5 x6 x7=>k (.exit 0) ⟨[(2,.one (.ptr 0 0)),(3,.one (.ptr 1 0)),(4,.one (.own 4)),(5,.one (.own 2)),(7,.one (.pv x0)),(8,.one (.pv x1))],[(1,[.pv x2,.pv x3]),(0,[.pv x4,.pv x5])],[(4,⟨.flat,150,21,x6⟩),(2,⟨.flat,150,21,x7⟩)],5,51,[]⟩)⟩]
theorem Qhx_s:xaD [⟨[168],Qhp⟩,⟨[169],Qhn⟩,⟨[170],Qhw⟩] TT (kk [2,3,4,5,7,8,999999]) Qhx_l f83 Qhx_l:=⟨fun v K k h=>by
 apply xab h;(repeat intro _);rename_i h;exact km h
 ,trivial⟩
theorem Qhx_w:EO ⟨[83],Qhx⟩:=oN (ec Qhp_w (ec Qhn_w (ec Qhw_w en))) (keep:=(kk [2,3,4,5,7,8,999999])) (l:=Qhx_l) func83 Qhx_s fun av k h=>by
 unfold Qhx at h;split at h
 ·apply xab h;clear h;intro a0 a1 h;apply xab h;clear h;intro a2 a3 h;exact km h
 ·exact h.elim
def Qhy_r0 (v:List PV) (K:List PV→Prop) (x0k:Cur 42) (x1k:Cur 25):Prop :=
 un 25 (fun v0 v1 v2 v3 v4 v5 v6 v7 v8 v9 v10 v11 v12 v13 v14 v15 v16 v17 v18 v19 v20 v21 v22 v23 v24 =>
  xaK v0 fun r0 =>
  xac .lss v3 r0 fun r1 =>
  xad r1
   (xai 21 v0 v3 fun c2 =>
   xad (atP c2 1)
    (xai 21 v0 v3 fun c3 =>
    xac .eql (atP c3 2) v1 fun r4 =>
    xad r4
     (xai 21 v0 v3 fun c5 =>
     call Qbu [.agg [(atP c5 0),(atP c5 1),(atP c5 2),(atP c5 3),(atP c5 4),(atP c5 5),(atP c5 6),(atP c5 7),(atP c5 8),(atP c5 9),(atP c5 10),(atP c5 11),(atP c5 12),(atP c5 13),(atP c5 14),(atP c5 15),(atP c5 16),(atP c5 17),(atP c5 18),(atP c5 19),(atP c5 20)]] fun o6 =>
     x0k (atP o6 0) (atP o6 1) (atP o6 2) (atP o6 3) (atP o6 4) (atP o6 5) (atP o6 6) (atP o6 7) (atP o6 8) (atP o6 9) (atP o6 10) (atP o6 11) (atP o6 12) (atP o6 13) (atP o6 14) (atP o6 15) (atP o6 16) (atP o6 17) (atP o6 18) (atP o6 19) (atP o6 20) v4 v5 v6 v7 v8 v9 v10 v11 v12 v13 v14 v15 v16 v17 v18 v19 v20 v21 v22 v23 v24)
     (xac .add v3 (I 1) fun r7 =>
     K [v0,v1,v2,r7,v4,v5,v6,v7,v8,v9,v10,v11,v12,v13,v14,v15,v16,v17,v18,v19,v20,v21,v22,v23,v24]))
    (xac .add v3 (I 1) fun r8 =>
    K [v0,v1,v2,r8,v4,v5,v6,v7,v8,v9,v10,v11,v12,v13,v14,v15,v16,v17,v18,v19,v20,v21,v22,v23,v24]))
   (x1k v0 v1 v2 v3 v4 v5 v6 v7 v8 v9 v10 v11 v12 v13 v14 v15 v16 v17 v18 v19 v20 v21 v22 v23 v24)) v
def Qhy:GM
 | [.one a0,.one a1],k =>
  lp (fun L w=>Qhy_r0 w L
   (fun q9 q10 q11 q12 q13 q14 q15 q16 q17 q18 q19 q20 q21 q22 q23 q24 q25 q26 q27 q28 q29 q30 q31 q32 q33 q34 q35 q36 q37 q38 q39 q40 q41 q42 q43 q44 q45 q46 q47 q48 q49 q50=>rt g23 [q9,q10,q11,q12,q13,q14,q15,q16,q17,q18,q19,q20,q21,q22,q23,q24,q25,q26,q27,q28,q29,(.bool true)] k)
   (fun q51 q52 q53 q54 q55 q56 q57 q58 q59 q60 q61 q62 q63 q64 q65 q66 q67 q68 q69 q70 q71 q72 q73 q74 q75=>rt g23 [(.list 17 []),(.bool false),(.str ⟨#[]⟩),(I 0),(I 0),(.list 1 []),(I 0),(.list 1 []),(I 0),(.str ⟨#[]⟩),(I 0),(I 0),(.list 1 []),(.str ⟨#[]⟩),(I 0),(I 0),(.list 1 []),(I 0),(.list 1 []),(I 0),(.list 1 []),(.bool false)] k)) [a0,a1,(.bool false),(I 0),(.bool false),(.str ⟨#[]⟩),(I 0),(I 0),(I 0),(I 0),(.str ⟨#[]⟩),(I 0),(I 0),(.str ⟨#[]⟩),(I 0),(I 0),(I 0),(I 0),(.list 1 []),(.list 1 []),(.list 1 []),(.list 1 []),(.list 1 []),(.list 1 []),(.list 17 [])]
 | _,_=>False
def Qhy_l:List LE:=[⟨none,0,⟨[(0,.one zB),(1,.one zB),(4,.one (.ptr 0 0)),(5,.one zB),(6,.one zB)],[(0,[.own 1,zB,zB,zB,zB,.own 2,zB,.own 3,zB,zB,zB,zB,.own 4,zB,zB,zB,.own 5,zB,.own 6,zB,.own 7])],[(7,⟨.deep,3,1,(.bool false)⟩),(6,⟨.deep,3,1,(.bool false)⟩),(5,⟨.flat,9,1,(.bool false)⟩),(4,⟨.flat,9,1,(.bool false)⟩),(3,⟨.deep,3,1,(.bool false)⟩),(2,⟨.flat,9,1,(.bool false)⟩),(1,⟨.flat,257,17,(.bool false)⟩)],8,34,[]⟩,fun K k v=>Qhy_r0 v K (fun x0 x1 x2 x3 x4 x5 x6 x7 x8 x9 x10 x11 x12 x13 x14 x15 x16 x17 x18 x19 x20 x21 x22 x23 x24 x25 x26 x27 x28 x29 x30 x31 x32 x33 x34 x35 x36 x37 x38 x39 x40 x41=>k .ret ⟨[(4,.one (.ptr 0 0)),(5,.one (.kb true))],[(0,[.pv x0,.pv x1,.pv x2,.pv x3,.pv x4,.pv x5,.pv x6,.pv x7,.pv x8,.pv x9,.pv x10,.pv x11,.pv x12,.pv x13,.pv x14,.pv x15,.pv x16,.pv x17,.pv x18,.pv x19,.pv x20]),(0,[.own 1,.pv x21,.pv x22,.pv x23,.pv x24,.own 2,.pv x25,.own 3,.pv x26,.pv x27,.pv x28,.pv x29,.own 4,.pv x30,.pv x31,.pv x32,.own 5,.pv x33,.own 6,.pv x34,.own 7])],[(7,⟨.deep,3,1,x35⟩),(6,⟨.deep,3,1,x36⟩),(5,⟨.flat,9,1,x37⟩),(4,⟨.flat,9,1,x38⟩),(3,⟨.deep,3,1,x39⟩),(2,⟨.flat,9,1,x40⟩),(1,⟨.flat,257,17,x41⟩)],29,34,[]⟩) (fun x0 x1 x2 x3 x4 x5 x6 x7 x8 x9 x10 x11 x12 x13 x14 x15 x16 x17 x18 x19 x20 x21 x22 x23 x24=>k (.exit 0) ⟨[(0,.one (.pv x0)),(1,.one (.pv x1)),(4,.one (.ptr 0 0)),(5,.one (.pv x2)),(6,.one (.pv x3))],[(0,[.own 1,.pv x4,.pv x5,.pv x6,.pv x7,.own 2,.pv x8,.own 3,.pv x9,.pv x10,.pv x11,.pv x12,.own 4,.pv x13,.pv x14,.pv x15,.own 5,.pv x16,.own 6,.pv x17,.own 7])],[(7,⟨.deep,3,1,x18⟩),(6,⟨.deep,3,1,x19⟩),(5,⟨.flat,9,1,x20⟩),(4,⟨.flat,9,1,x21⟩),(3,⟨.deep,3,1,x22⟩),(2,⟨.flat,9,1,x23⟩),(1,⟨.flat,257,17,x24⟩)],8,34,[]⟩)⟩]
theorem Qhy_s:xaD [⟨[167],Qbu⟩] TT (kk [0,1,4,5,6,19,20,21,22,23,24,25,26,999999]) Qhy_l f82 Qhy_l:=⟨fun v K k h=>by
 apply xab h;(repeat intro _);rename_i h;exact km h
 ,trivial⟩
theorem Qhy_w:EO ⟨[82],Qhy⟩:=oN (ec Qbu_w en) (keep:=(kk [0,1,4,5,6,19,20,21,22,23,24,25,26,999999])) (l:=Qhy_l) func82 Qhy_s fun av k h=>by
 unfold Qhy at h;split at h
 ·exact km h
 ·exact h.elim
def Qhz_r0 (v:List PV) (K:List PV→Prop) (x0k:PV→Prop) (x1k:Cur 5):Prop :=
 un 5 (fun v0 v1 v2 v3 v4 =>
  xaK v3 fun r0 =>
  xac .lss v2 r0 fun r1 =>
  xad r1
   (xai 1 v3 v2 fun c2 =>
   xaK (atP c2 0) fun r3 =>
   xac .gtr r3 (I 0) fun r4 =>
   xad r4
    (xai 1 v3 v2 fun c5 =>
    xai 17 (atP c5 0) (I 0) fun c6 =>
    xac .eql (atP c6 0) v0 fun r7 =>
    xad r7
     (x0k v2)
     (xac .add v2 (I 1) fun r8 =>
     K [v0,v1,r8,v3,v4]))
    (xac .add v2 (I 1) fun r9 =>
    K [v0,v1,r9,v3,v4]))
   (x1k v0 v1 v2 v3 v4)) v
def Qhz:GM
 | [.agg u0,.one a2],k=>un 2 (fun a0 a1 =>
  lp (fun L w=>Qhz_r0 w L
   (fun q10=>rt [.sc] [q10] k)
   (fun q11 q12 q13 q14 q15=>rt [.sc] [(I (-1))] k)) [a2,(I 0),(I 0),a0,a1]) u0
 | _,_=>False
def Qhz_l:List LE:=[⟨none,0,⟨[(1,.one zB),(2,.one (.ptr 0 0)),(4,.one zB),(5,.one zB)],[(0,[zB,zB])],[],1,34,[]⟩,fun K k v=>Qhz_r0 v K (fun x0=>k .ret ⟨[(4,.one (.pv x0))],[],[],1,34,[]⟩) (fun x0 x1 x2 x3 x4=>k (.exit 0) ⟨[(1,.one (.pv x0)),(2,.one (.ptr 0 0)),(4,.one (.pv x1)),(5,.one (.pv x2))],[(0,[.pv x3,.pv x4])],[],1,34,[]⟩)⟩]
theorem Qhz_s:xaD [] TT (kk [1,2,4,5,21,22,23,24,25,26,27,28,29,30,31,999999]) Qhz_l f240 Qhz_l:=⟨fun v K k h=>by
 apply xab h;exact fun v0 v1 v2 v3 v4 h=>km h
 ,trivial⟩
theorem Qhz_w:EO ⟨[240],Qhz⟩:=oN en (keep:=(kk [1,2,4,5,21,22,23,24,25,26,27,28,29,30,31,999999])) (l:=Qhz_l) func240 Qhz_s fun av k h=>by
 unfold Qhz at h;split at h
 ·apply xab h;clear h;intro a0 a1 h;exact km h
 ·exact h.elim
def Qia:GM
 | [.agg u0,.agg u1],k=>un 16 (fun a0 a1 a2 a3 a4 a5 a6 a7 a8 a9 a10 a11 a12 a13 a14 a15=>un 16 (fun a16 a17 a18 a19 a20 a21 a22 a23 a24 a25 a26 a27 a28 a29 a30 a31 =>
  call Qcd [.agg [a0,a1,a2,a3,a4,a5,a6,a7,a8,a9,a10,a11,a12,a13,a14,a15]] fun o0 =>
  call Qcd [.agg [a16,a17,a18,a19,a20,a21,a22,a23,a24,a25,a26,a27,a28,a29,a30,a31]] fun o1 =>
  call Qcm [.one (atP o0 0),.one (atP o1 0)] fun o2 =>
  xad (atP o2 0)
   (xer .eql a15 a31 fun r3 =>
   rt [.sc] [r3] k)
   (rt [.sc] [(.bool false)] k)) u1) u0
 | _,_=>False
theorem Qia_w:EO ⟨[299],Qia⟩:=oNz (ec Qcd_w (ec Qcm_w en)) func299 fun av k h=>by
 unfold Qia at h;split at h
 ·apply xab h;clear h;(repeat intro _);rename_i h;apply xab h;clear h;(repeat intro _);rename_i h;exact km h
 ·exact h.elim
def Qib_r0 (v:List PV) (K:List PV→Prop) (x0k:Prop) (x1k:Cur 4):Prop :=
 un 4 (fun v0 v1 v2 v3 =>
  xaK v0 fun r0 =>
  xac .lss v3 r0 fun r1 =>
  xad r1
   (xai 17 v0 v3 fun c2 =>
   xai 17 v1 v3 fun c3 =>
   call Qia [.agg (s16 c2),.agg (s16 c3)] fun o4 =>
   unP .not (atP o4 0) fun r5 =>
   xad r5
    (x0k)
    (xac .add v3 (I 1) fun r6 =>
    K [v0,v1,v2,r6]))
   (x1k v0 v1 v2 v3)) v
def Qib:GM
 | [.one a0,.one a1],k =>
  xaK a0 fun r0 =>
  xaK a1 fun r1 =>
  xac .gtr r0 r1 fun r2 =>
  xad r2
   (rt [.sc] [(.bool false)] k)
   (lp (fun L w=>Qib_r0 w L
    (rt [.sc] [(.bool false)] k)
    (fun q7 q8 q9 q10=>rt [.sc] [(.bool true)] k)) [a0,a1,(.bool false),(I 0)])
 | _,_=>False
def Qib_l:List LE:=[⟨none,0,⟨[(0,.one zB),(1,.one zB),(4,.one zB),(5,.one zB)],[],[],0,29,[]⟩,fun K k v=>Qib_r0 v K (k .ret ⟨[(4,.one (.kb false))],[],[],1,29,[]⟩) (fun x0 x1 x2 x3=>k (.exit 0) ⟨[(0,.one (.pv x0)),(1,.one (.pv x1)),(4,.one (.pv x2)),(5,.one (.pv x3))],[],[],0,29,[]⟩)⟩]
theorem Qib_s:xaD [⟨[299],Qia⟩] TT (kk [0,1,4,5,999999]) Qib_l f298 Qib_l:=⟨fun v K k h=>by
 apply xab h;exact fun v0 v1 v2 v3 h=>km h
 ,trivial⟩
theorem Qib_w:EO ⟨[298],Qib⟩:=oN (ec Qia_w en) (keep:=(kk [0,1,4,5,999999])) (l:=Qib_l) func298 Qib_s fun av k h=>by
 unfold Qib at h;split at h
 ·exact km h
 ·exact h.elim
def Qic:GM
 | [.agg u0,.one a2],k=>un 2 (fun a0 a1 =>
  call Qcu [.one a2] fun o0 =>
  unP .not (atP o0 0) fun r1 =>
  xad r1
   (rt [.sc] [(I 6)] k)
   (xai 17 a2 (I 0) fun c2 =>
   call Qhz [.agg [a0,a1],.one (atP c2 0)] fun o3 =>
   xac .lss (atP o3 0) (I 0) fun r4 =>
   xad r4
    (rt [.sc] [(I 1)] k)
    (xai 1 a0 (atP o3 0) fun c5 =>
    call Qib [.one (atP c5 0),.one a2] fun o6 =>
    xai 1 a0 (atP o3 0) fun c7 =>
    call Qib [.one a2,.one (atP c7 0)] fun o8 =>
    xad (atP o6 0)
     (xad (atP o8 0)
      (rt [.sc] [(I 2)] k)
      (xad (atP o6 0)
       (rt [.sc] [(I 3)] k)
       (xad (atP o8 0)
        (rt [.sc] [(I 4)] k)
        (rt [.sc] [(I 5)] k))))
     (xad (atP o6 0)
      (rt [.sc] [(I 3)] k)
      (xad (atP o8 0)
       (rt [.sc] [(I 4)] k)
       (rt [.sc] [(I 5)] k)))))) u0
 | _,_=>False
theorem Qic_w:EO ⟨[239],Qic⟩:=oNz (ec Qcu_w (ec Qhz_w (ec Qib_w en))) func239 fun av k h=>by
 unfold Qic at h;split at h
 ·apply xab h;clear h;intro a0 a1 h;exact km h
 ·exact h.elim
def Qid_r0 (v:List PV) (K:List PV→Prop) (x0k:Cur 92) (x1k:Cur 57) (x2k:Cur 55):Prop :=
 un 55 (fun v0 v1 v2 v3 v4 v5 v6 v7 v8 v9 v10 v11 v12 v13 v14 v15 v16 v17 v18 v19 v20 v21 v22 v23 v24 v25 v26 v27 v28 v29 v30 v31 v32 v33 v34 v35 v36 v37 v38 v39 v40 v41 v42 v43 v44 v45 v46 v47 v48 v49 v50 v51 v52 v53 v54 =>
  xaK v0 fun r0 =>
  xac .lss v3 r0 fun r1 =>
  xad r1
   (xaK v1 fun r2 =>
   xac .lss v3 r2 fun r3 =>
   xad r3
    (xai 17 v0 v3 fun c4 =>
    xai 17 v1 v3 fun c5 =>
    call Qia [.agg [(atP c4 0),(atP c4 1),(atP c4 2),(atP c4 3),(atP c4 4),(atP c4 5),(atP c4 6),(atP c4 7),(atP c4 8),(atP c4 9),(atP c4 10),(atP c4 11),(atP c4 12),(atP c4 13),(atP c4 14),(atP c4 15)],.agg [(atP c5 0),(atP c5 1),(atP c5 2),(atP c5 3),(atP c5 4),(atP c5 5),(atP c5 6),(atP c5 7),(atP c5 8),(atP c5 9),(atP c5 10),(atP c5 11),(atP c5 12),(atP c5 13),(atP c5 14),(atP c5 15)]] fun o6 =>
    xad (atP o6 0)
     (xac .add v3 (I 1) fun r7 =>
     K [v0,v1,v2,r7,v4,v5,v6,v7,v8,v9,v10,v11,v12,v13,v14,v15,v16,v17,v18,v19,v20,v21,v22,v23,v24,v25,v26,v27,v28,v29,v30,v31,v32,v33,v34,v35,v36,v37,v38,v39,v40,v41,v42,v43,v44,v45,v46,v47,v48,v49,v50,v51,v52,v53,v54])
     (x0k v0 v1 v2 v3 r2 r3 (atP c4 0) (atP c4 1) (atP c4 2) (atP c4 3) (atP c4 4) (atP c4 5) (atP c4 6) (atP c4 7) (atP c4 8) (atP c4 9) (atP c4 10) (atP c4 11) (atP c4 12) (atP c4 13) (atP c4 14) (atP c4 15) (atP c4 16) (atP c5 0) (atP c5 1) (atP c5 2) (atP c5 3) (atP c5 4) (atP c5 5) (atP c5 6) (atP c5 7) (atP c5 8) (atP c5 9) (atP c5 10) (atP c5 11) (atP c5 12) (atP c5 13) (atP c5 14) (atP c5 15) (atP c5 16) (atP o6 0) v4 v5 v6 v7 v8 v9 v10 v11 v12 v13 v14 v15 v16 v17 v18 v19 v20 v21 v22 v23 v24 v25 v26 v27 v28 v29 v30 v31 v32 v33 v34 v35 v36 v37 v38 v39 v40 v41 v42 v43 v44 v45 v46 v47 v48 v49 v50 v51 v52 v53 v54))
    (x1k v0 v1 v2 v3 r2 r3 v4 v5 v6 v7 v8 v9 v10 v11 v12 v13 v14 v15 v16 v17 v18 v19 v20 v21 v22 v23 v24 v25 v26 v27 v28 v29 v30 v31 v32 v33 v34 v35 v36 v37 v38 v39 v40 v41 v42 v43 v44 v45 v46 v47 v48 v49 v50 v51 v52 v53 v54))
   (x2k v0 v1 v2 v3 v4 v5 v6 v7 v8 v9 v10 v11 v12 v13 v14 v15 v16 v17 v18 v19 v20 v21 v22 v23 v24 v25 v26 v27 v28 v29 v30 v31 v32 v33 v34 v35 v36 v37 v38 v39 v40 v41 v42 v43 v44 v45 v46 v47 v48 v49 v50 v51 v52 v53 v54)) v
def Qid:GM
 | [.one a0,.one a1],k =>
  call Qcu [.one a0] fun o0 =>
  unP .not (atP o0 0) fun r1 =>
  xad r1
   (rt g3 [(I 0),(I 0),(I 0),(I 0),(I 0),(I 0),(I 0),(I 0),(.list 1 []),(I 0),(.list 1 []),(I 0),(I 0),(.list 1 []),(I 0),(.bool false),(.list 2 []),(I 0),(I 0),(I 0),(I 0),(I 0),(I 0),(I 0),(I 0),(.list 1 []),(I 0),(.list 1 []),(I 0),(I 0),(.list 1 []),(I 0),(.bool false),(.list 2 []),(I 0),(I 0),(I 0),(I 0),(I 0),(I 0),(I 0),(I 0),(.list 1 []),(I 0),(.list 1 []),(I 0),(I 0),(.list 1 []),(I 0),(.bool false),(.list 2 []),(.bool false)] k)
   (call Qcu [.one a1] fun o2 =>
   unP .not (atP o2 0) fun r3 =>
   xad r3
    (rt g3 [(I 0),(I 0),(I 0),(I 0),(I 0),(I 0),(I 0),(I 0),(.list 1 []),(I 0),(.list 1 []),(I 0),(I 0),(.list 1 []),(I 0),(.bool false),(.list 2 []),(I 0),(I 0),(I 0),(I 0),(I 0),(I 0),(I 0),(I 0),(.list 1 []),(I 0),(.list 1 []),(I 0),(I 0),(.list 1 []),(I 0),(.bool false),(.list 2 []),(I 0),(I 0),(I 0),(I 0),(I 0),(I 0),(I 0),(I 0),(.list 1 []),(I 0),(.list 1 []),(I 0),(I 0),(.list 1 []),(I 0),(.bool false),(.list 2 []),(.bool false)] k)
    (xai 17 a0 (I 0) fun c4 =>
    xai 17 a1 (I 0) fun c5 =>
    xac .neq (atP c4 0) (atP c5 0) fun r6 =>
    xad r6
     (rt g3 [(I 0),(I 0),(I 0),(I 0),(I 0),(I 0),(I 0),(I 0),(.list 1 []),(I 0),(.list 1 []),(I 0),(I 0),(.list 1 []),(I 0),(.bool false),(.list 2 []),(I 0),(I 0),(I 0),(I 0),(I 0),(I 0),(I 0),(I 0),(.list 1 []),(I 0),(.list 1 []),(I 0),(I 0),(.list 1 []),(I 0),(.bool false),(.list 2 []),(I 0),(I 0),(I 0),(I 0),(I 0),(I 0),(I 0),(I 0),(.list 1 []),(I 0),(.list 1 []),(I 0),(I 0),(.list 1 []),(I 0),(.bool false),(.list 2 []),(.bool false)] k)
     (call Qib [.one a0,.one a1] fun o7 =>
     xad (atP o7 0)
      (rt g3 [(I 0),(I 0),(I 0),(I 0),(I 0),(I 0),(I 0),(I 0),(.list 1 []),(I 0),(.list 1 []),(I 0),(I 0),(.list 1 []),(I 0),(.bool false),(.list 2 []),(I 0),(I 0),(I 0),(I 0),(I 0),(I 0),(I 0),(I 0),(.list 1 []),(I 0),(.list 1 []),(I 0),(I 0),(.list 1 []),(I 0),(.bool false),(.list 2 []),(I 0),(I 0),(I 0),(I 0),(I 0),(I 0),(I 0),(I 0),(.list 1 []),(I 0),(.list 1 []),(I 0),(I 0),(.list 1 []),(I 0),(.bool false),(.list 2 []),(.bool false)] k)
      (call Qib [.one a1,.one a0] fun o8 =>
      xad (atP o8 0)
       (rt g3 [(I 0),(I 0),(I 0),(I 0),(I 0),(I 0),(I 0),(I 0),(.list 1 []),(I 0),(.list 1 []),(I 0),(I 0),(.list 1 []),(I 0),(.bool false),(.list 2 []),(I 0),(I 0),(I 0),(I 0),(I 0),(I 0),(I 0),(I 0),(.list 1 []),(I 0),(.list 1 []),(I 0),(I 0),(.list 1 []),(I 0),(.bool false),(.list 2 []),(I 0),(I 0),(I 0),(I 0),(I 0),(I 0),(I 0),(I 0),(.list 1 []),(I 0),(.list 1 []),(I 0),(I 0),(.list 1 []),(I 0),(.bool false),(.list 2 []),(.bool false)] k)
       (lp (fun L w=>Qid_r0 w L
        (fun q9 q10 q11 q12 q13 q14 q15 q16 q17 q18 q19 q20 q21 q22 q23 q24 q25 q26 q27 q28 q29 q30 q31 q32 q33 q34 q35 q36 q37 q38 q39 q40 q41 q42 q43 q44 q45 q46 q47 q48 q49 q50 q51 q52 q53 q54 q55 q56 q57 q58 q59 q60 q61 q62 q63 q64 q65 q66 q67 q68 q69 q70 q71 q72 q73 q74 q75 q76 q77 q78 q79 q80 q81 q82 q83 q84 q85 q86 q87 q88 q89 q90 q91 q92 q93 q94 q95 q96 q97 q98 q99 q100=>xai 17 q9 q12 fun c101 =>
         call Qbm [.agg [(atP c101 0),(atP c101 1),(atP c101 2),(atP c101 3),(atP c101 4),(atP c101 5),(atP c101 6),(atP c101 7),(atP c101 8),(atP c101 9),(atP c101 10),(atP c101 11),(atP c101 12),(atP c101 13),(atP c101 14),(atP c101 15),(atP c101 16)]] fun o102 =>
         xai 17 q10 q12 fun c103 =>
         call Qbm [.agg [(atP c103 0),(atP c103 1),(atP c103 2),(atP c103 3),(atP c103 4),(atP c103 5),(atP c103 6),(atP c103 7),(atP c103 8),(atP c103 9),(atP c103 10),(atP c103 11),(atP c103 12),(atP c103 13),(atP c103 14),(atP c103 15),(atP c103 16)]] fun o104 =>
         xac .gtr q12 (I 0) fun r105 =>
         xad r105
          (xac .sub q12 (I 1) fun r106 =>
          xai 17 q9 r106 fun c107 =>
          call Qbm [.agg [(atP c107 0),(atP c107 1),(atP c107 2),(atP c107 3),(atP c107 4),(atP c107 5),(atP c107 6),(atP c107 7),(atP c107 8),(atP c107 9),(atP c107 10),(atP c107 11),(atP c107 12),(atP c107 13),(atP c107 14),(atP c107 15),(atP c107 16)]] fun o108 =>
          rt g3 [(atP o108 0),(atP o108 1),(atP o108 2),(atP o108 3),(atP o108 4),(atP o108 5),(atP o108 6),(atP o108 7),(atP o108 8),(atP o108 9),(atP o108 10),(atP o108 11),(atP o108 12),(atP o108 13),(atP o108 14),(atP o108 15),(atP o108 16),(atP o102 0),(atP o102 1),(atP o102 2),(atP o102 3),(atP o102 4),(atP o102 5),(atP o102 6),(atP o102 7),(atP o102 8),(atP o102 9),(atP o102 10),(atP o102 11),(atP o102 12),(atP o102 13),(atP o102 14),(atP o102 15),(atP o102 16),(atP o104 0),(atP o104 1),(atP o104 2),(atP o104 3),(atP o104 4),(atP o104 5),(atP o104 6),(atP o104 7),(atP o104 8),(atP o104 9),(atP o104 10),(atP o104 11),(atP o104 12),(atP o104 13),(atP o104 14),(atP o104 15),(atP o104 16),(.bool true)] k)
          (rt g3 [(I 0),(I 0),(I 0),(I 0),(I 0),(I 0),(I 0),(I 0),(.list 1 []),(I 0),(.list 1 []),(I 0),(I 0),(.list 1 []),(I 0),(.bool false),(.list 2 []),(atP o102 0),(atP o102 1),(atP o102 2),(atP o102 3),(atP o102 4),(atP o102 5),(atP o102 6),(atP o102 7),(atP o102 8),(atP o102 9),(atP o102 10),(atP o102 11),(atP o102 12),(atP o102 13),(atP o102 14),(atP o102 15),(atP o102 16),(atP o104 0),(atP o104 1),(atP o104 2),(atP o104 3),(atP o104 4),(atP o104 5),(atP o104 6),(atP o104 7),(atP o104 8),(atP o104 9),(atP o104 10),(atP o104 11),(atP o104 12),(atP o104 13),(atP o104 14),(atP o104 15),(atP o104 16),(.bool true)] k))
        (fun q109 q110 q111 q112 q113 q114 q115 q116 q117 q118 q119 q120 q121 q122 q123 q124 q125 q126 q127 q128 q129 q130 q131 q132 q133 q134 q135 q136 q137 q138 q139 q140 q141 q142 q143 q144 q145 q146 q147 q148 q149 q150 q151 q152 q153 q154 q155 q156 q157 q158 q159 q160 q161 q162 q163 q164 q165=>xai 17 q109 q112 fun c166 =>
         call Qbm [.agg [(atP c166 0),(atP c166 1),(atP c166 2),(atP c166 3),(atP c166 4),(atP c166 5),(atP c166 6),(atP c166 7),(atP c166 8),(atP c166 9),(atP c166 10),(atP c166 11),(atP c166 12),(atP c166 13),(atP c166 14),(atP c166 15),(atP c166 16)]] fun o167 =>
         xai 17 q110 q112 fun c168 =>
         call Qbm [.agg [(atP c168 0),(atP c168 1),(atP c168 2),(atP c168 3),(atP c168 4),(atP c168 5),(atP c168 6),(atP c168 7),(atP c168 8),(atP c168 9),(atP c168 10),(atP c168 11),(atP c168 12),(atP c168 13),(atP c168 14),(atP c168 15),(atP c168 16)]] fun o169 =>
         xac .gtr q112 (I 0) fun r170 =>
         xad r170
          (xac .sub q112 (I 1) fun r171 =>
          xai 17 q109 r171 fun c172 =>
          call Qbm [.agg [(atP c172 0),(atP c172 1),(atP c172 2),(atP c172 3),(atP c172 4),(atP c172 5),(atP c172 6),(atP c172 7),(atP c172 8),(atP c172 9),(atP c172 10),(atP c172 11),(atP c172 12),(atP c172 13),(atP c172 14),(atP c172 15),(atP c172 16)]] fun o173 =>
          rt g3 [(atP o173 0),(atP o173 1),(atP o173 2),(atP o173 3),(atP o173 4),(atP o173 5),(atP o173 6),(atP o173 7),(atP o173 8),(atP o173 9),(atP o173 10),(atP o173 11),(atP o173 12),(atP o173 13),(atP o173 14),(atP o173 15),(atP o173 16),(atP o167 0),(atP o167 1),(atP o167 2),(atP o167 3),(atP o167 4),(atP o167 5),(atP o167 6),(atP o167 7),(atP o167 8),(atP o167 9),(atP o167 10),(atP o167 11),(atP o167 12),(atP o167 13),(atP o167 14),(atP o167 15),(atP o167 16),(atP o169 0),(atP o169 1),(atP o169 2),(atP o169 3),(atP o169 4),(atP o169 5),(atP o169 6),(atP o169 7),(atP o169 8),(atP o169 9),(atP o169 10),(atP o169 11),(atP o169 12),(atP o169 13),(atP o169 14),(atP o169 15),(atP o169 16),(.bool true)] k)
          (rt g3 [(I 0),(I 0),(I 0),(I 0),(I 0),(I 0),(I 0),(I 0),(.list 1 []),(I 0),(.list 1 []),(I 0),(I 0),(.list 1 []),(I 0),(.bool false),(.list 2 []),(atP o167 0),(atP o167 1),(atP o167 2),(atP o167 3),(atP o167 4),(atP o167 5),(atP o167 6),(atP o167 7),(atP o167 8),(atP o167 9),(atP o167 10),(atP o167 11),(atP o167 12),(atP o167 13),(atP o167 14),(atP o167 15),(atP o167 16),(atP o169 0),(atP o169 1),(atP o169 2),(atP o169 3),(atP o169 4),(atP o169 5),(atP o169 6),(atP o169 7),(atP o169 8),(atP o169 9),(atP o169 10),(atP o169 11),(atP o169 12),(atP o169 13),(atP o169 14),(atP o169 15),(atP o169 16),(.bool true)] k))
        (fun q174 q175 q176 q177 q178 q179 q180 q181 q182 q183 q184 q185 q186 q187 q188 q189 q190 q191 q192 q193 q194 q195 q196 q197 q198 q199 q200 q201 q202 q203 q204 q205 q206 q207 q208 q209 q210 q211 q212 q213 q214 q215 q216 q217 q218 q219 q220 q221 q222 q223 q224 q225 q226 q227 q228=>xai 17 q174 q177 fun c229 =>
         call Qbm [.agg [(atP c229 0),(atP c229 1),(atP c229 2),(atP c229 3),(atP c229 4),(atP c229 5),(atP c229 6),(atP c229 7),(atP c229 8),(atP c229 9),(atP c229 10),(atP c229 11),(atP c229 12),(atP c229 13),(atP c229 14),(atP c229 15),(atP c229 16)]] fun o230 =>
         xai 17 q175 q177 fun c231 =>
         call Qbm [.agg [(atP c231 0),(atP c231 1),(atP c231 2),(atP c231 3),(atP c231 4),(atP c231 5),(atP c231 6),(atP c231 7),(atP c231 8),(atP c231 9),(atP c231 10),(atP c231 11),(atP c231 12),(atP c231 13),(atP c231 14),(atP c231 15),(atP c231 16)]] fun o232 =>
         xac .gtr q177 (I 0) fun r233 =>
         xad r233
          (xac .sub q177 (I 1) fun r234 =>
          xai 17 q174 r234 fun c235 =>
          call Qbm [.agg [(atP c235 0),(atP c235 1),(atP c235 2),(atP c235 3),(atP c235 4),(atP c235 5),(atP c235 6),(atP c235 7),(atP c235 8),(atP c235 9),(atP c235 10),(atP c235 11),(atP c235 12),(atP c235 13),(atP c235 14),(atP c235 15),(atP c235 16)]] fun o236 =>
          rt g3 [(atP o236 0),(atP o236 1),(atP o236 2),(atP o236 3),(atP o236 4),(atP o236 5),(atP o236 6),(atP o236 7),(atP o236 8),(atP o236 9),(atP o236 10),(atP o236 11),(atP o236 12),(atP o236 13),(atP o236 14),(atP o236 15),(atP o236 16),(atP o230 0),(atP o230 1),(atP o230 2),(atP o230 3),(atP o230 4),(atP o230 5),(atP o230 6),(atP o230 7),(atP o230 8),(atP o230 9),(atP o230 10),(atP o230 11),(atP o230 12),(atP o230 13),(atP o230 14),(atP o230 15),(atP o230 16),(atP o232 0),(atP o232 1),(atP o232 2),(atP o232 3),(atP o232 4),(atP o232 5),(atP o232 6),(atP o232 7),(atP o232 8),(atP o232 9),(atP o232 10),(atP o232 11),(atP o232 12),(atP o232 13),(atP o232 14),(atP o232 15),(atP o232 16),(.bool true)] k)
          (rt g3 [(I 0),(I 0),(I 0),(I 0),(I 0),(I 0),(I 0),(I 0),(.list 1 []),(I 0),(.list 1 []),(I 0),(I 0),(.list 1 []),(I 0),(.bool false),(.list 2 []),(atP o230 0),(atP o230 1),(atP o230 2),(atP o230 3),(atP o230 4),(atP o230 5),(atP o230 6),(atP o230 7),(atP o230 8),(atP o230 9),(atP o230 10),(atP o230 11),(atP o230 12),(atP o230 13),(atP o230 14),(atP o230 15),(atP o230 16),(atP o232 0),(atP o232 1),(atP o232 2),(atP o232 3),(atP o232 4),(atP o232 5),(atP o232 6),(atP o232 7),(atP o232 8),(atP o232 9),(atP o232 10),(atP o232 11),(atP o232 12),(atP o232 13),(atP o232 14),(atP o232 15),(atP o232 16),(.bool true)] k))) [a0,a1,(.bool false),(I 0),(I 0),(I 0),(I 0),(I 0),(I 0),(I 0),(I 0),(I 0),(I 0),(I 0),(I 0),(I 0),(.bool false),(I 0),(I 0),(I 0),(I 0),(I 0),(I 0),(I 0),(I 0),(I 0),(I 0),(I 0),(I 0),(.bool false),(I 0),(I 0),(I 0),(I 0),(I 0),(I 0),(I 0),(I 0),(I 0),(I 0),(I 0),(I 0),(.bool false),(.list 2 []),(.list 1 []),(.list 1 []),(.list 1 []),(.list 2 []),(.list 1 []),(.list 1 []),(.list 1 []),(.list 2 []),(.list 1 []),(.list 1 []),(.list 1 [])])))))
 | _,_=>False
def Qid_l:List LE:=[⟨none,0,⟨[(0,.one zB),(1,.one zB),(4,.one (.ptr 0 0)),(5,.one zB),(6,.one zB)],[(0,[zB,zB,zB,zB,zB,zB,zB,zB,.own 5,zB,.own 6,zB,zB,.own 7,zB,zB,.own 8,zB,zB,zB,zB,zB,zB,zB,zB,.own 9,zB,.own 10,zB,zB,.own 11,zB,zB,.own 12,zB,zB,zB,zB,zB,zB,zB,zB,.own 13,zB,.own 14,zB,zB,.own 15,zB,zB,.own 16])],[(16,⟨.deep,317,2,(.bool false)⟩),(15,⟨.deep,3,1,(.bool false)⟩),(14,⟨.deep,3,1,(.bool false)⟩),(13,⟨.deep,3,1,(.bool false)⟩),(12,⟨.deep,317,2,(.bool false)⟩),(11,⟨.deep,3,1,(.bool false)⟩),(10,⟨.deep,3,1,(.bool false)⟩),(9,⟨.deep,3,1,(.bool false)⟩),(8,⟨.deep,317,2,(.bool false)⟩),(7,⟨.deep,3,1,(.bool false)⟩),(6,⟨.deep,3,1,(.bool false)⟩),(5,⟨.deep,3,1,(.bool false)⟩)],17,86,[]⟩,fun K k v=>Qid_r0 v K (fun x0 x1 x2 x3 x4 x5 x6 x7 x8 x9 x10 x11 x12 x13 x14 x15 x16 x17 x18 x19 x20 x21 x22 x23 x24 x25 x26 x27 x28 x29 x30 x31 x32 x33 x34 x35 x36 x37 x38 x39 x40 x41 x42 x43 x44 x45 x46 x47 x48 x49 x50 x51 x52 x53 x54 x55 x56 x57 x58 x59 x60 x61 x62 x63 x64 x65 x66 x67 x68 x69 x70 x71 x72 x73 x74 x75 x76 x77 x78 x79 x80 x81 x82 x83 x84 x85 x86 x87 x88 x89 x90 x91=>k (.exit 0) ⟨[(0,.one (.pv x0)),(1,.one (.pv x1)),(4,.one (.ptr 0 0)),(5,.one (.pv x2)),(6,.one (.pv x3)),(45,.one (.pv x3)),(46,.one (.pv x1)),(47,.one (.pv x4)),(48,.one (.pv x5)),(51,.one (.pv x0)),(52,.one (.pv x3)),(53,.one (.sptr [x6,x7,x8,x9,x10,x11,x12,x13,x14,x15,x16,x17,x18,x19,x20,x21,x22])),(54,.one (.sptr [x6,x7,x8,x9,x10,x11,x12,x13,x14,x15,x16,x17,x18,x19,x20,x21,x22])),(55,.agg [.pv x6,.pv x7,.pv x8,.pv x9,.pv x10,.pv x11,.pv x12,.pv x13,.pv x14,.pv x15,.pv x16,.pv x17,.pv x18,.pv x19,.pv x20,.pv x21]),(56,.one (.pv x1)),(57,.one (.pv x3)),(58,.one (.sptr [x23,x24,x25,x26,x27,x28,x29,x30,x31,x32,x33,x34,x35,x36,x37,x38,x39])),(59,.one (.sptr [x23,x24,x25,x26,x27,x28,x29,x30,x31,x32,x33,x34,x35,x36,x37,x38,x39])),(60,.agg [.pv x23,.pv x24,.pv x25,.pv x26,.pv x27,.pv x28,.pv x29,.pv x30,.pv x31,.pv x32,.pv x33,.pv x34,.pv x35,.pv x36,.pv x37,.pv x38]),(61,.one (.pv x40))],[(0,[.pv x41,.pv x42,.pv x43,.pv x44,.pv x45,.pv x46,.pv x47,.pv x48,.own 5,.pv x49,.own 6,.pv x50,.pv x51,.own 7,.pv x52,.pv x53,.own 8,.pv x54,.pv x55,.pv x56,.pv x57,.pv x58,.pv x59,.pv x60,.pv x61,.own 9,.pv x62,.own 10,.pv x63,.pv x64,.own 11,.pv x65,.pv x66,.own 12,.pv x67,.pv x68,.pv x69,.pv x70,.pv x71,.pv x72,.pv x73,.pv x74,.own 13,.pv x75,.own 14,.pv x76,.pv x77,.own 15,.pv x78,.pv x79,.own 16])],[(16,⟨.deep,317,2,x80⟩),(15,⟨.deep,3,1,x81⟩),(14,⟨.deep,3,1,x82⟩),(13,⟨.deep,3,1,x83⟩),(12,⟨.deep,317,2,x84⟩),(11,⟨.deep,3,1,x85⟩),(10,⟨.deep,3,1,x86⟩),(9,⟨.deep,3,1,x87⟩),(8,⟨.deep,317,2,x88⟩),(7,⟨.deep,3,1,x89⟩),(6,⟨.deep,3,1,x90⟩),(5,⟨.deep,3,1,x91⟩)],18,86,[]⟩) (fun x0 x1 x2 x3 x4 x5 x6 x7 x8 x9 x10 x11 x12 x13 x14 x15 x16 x17 x18 x19 x20 x21 x22 x23 x24 x25 x26 x27 x28 x29 x30 x31 x32 x33 x34 x35 x36 x37 x38 x39 x40 x41 x42 x43 x44 x45 x46 x47 x48 x49 x50 x51 x52 x53 x54 x55 x56=>k (.exit 0) ⟨[(0,.one (.pv x0)),(1,.one (.pv x1)),(4,.one (.ptr 0 0)),(5,.one (.pv x2)),(6,.one (.pv x3)),(45,.one (.pv x3)),(46,.one (.pv x1)),(47,.one (.pv x4)),(48,.one (.pv x5)),(51,.undef),(52,.undef),(53,.undef),(54,.undef),(55,.undef),(56,.undef),(57,.undef),(58,.undef),(59,.undef),(60,.undef),(61,.undef)],[(0,[.pv x6,.pv x7,.pv x8,.pv x9,.pv x10,.pv x11,.pv x12,.pv x13,.own 5,.pv x14,.own 6,.pv x15,.pv x16,.own 7,.pv x17,.pv x18,.own 8,.pv x19,.pv x20,.pv x21,.pv x22,.pv x23,.pv x24,.pv x25,.pv x26,.own 9,.pv x27,.own 10,.pv x28,.pv x29,.own 11,.pv x30,.pv x31,.own 12,.pv x32,.pv x33,.pv x34,.pv x35,.pv x36,.pv x37,.pv x38,.pv x39,.own 13,.pv x40,.own 14,.pv x41,.pv x42,.own 15,.pv x43,.pv x44,.own 16])],[(16,⟨.deep,317,2,x45⟩),(15,⟨.deep,3,1,x46⟩),(14,⟨.deep,3,1,x47⟩),(13,⟨.deep,3,1,x48⟩),(12,⟨.deep,317,2,x49⟩),(11,⟨.deep,3,1,x50⟩),(10,⟨.deep,3,1,x51⟩),(9,⟨.deep,3,1,x52⟩),(8,⟨.deep,317,2,x53⟩),(7,⟨.deep,3,1,x54⟩),(6,⟨.deep,3,1,x55⟩),(5,⟨.deep,3,1,x56⟩)],17,86,[]⟩) (fun x0 x1 x2 x3 x4 x5 x6 x7 x8 x9 x10 x11 x12 x13 x14 x15 x16 x17 x18 x19 x20 x21 x22 x23 x24 x25 x26 x27 x28 x29 x30 x31 x32 x33 x34 x35 x36 x37 x38 x39 x40 x41 x42 x43 x44 x45 x46 x47 x48 x49 x50 x51 x52 x53 x54=>k (.exit 0) ⟨[(0,.one (.pv x0)),(1,.one (.pv x1)),(4,.one (.ptr 0 0)),(5,.one (.pv x2)),(6,.one (.pv x3)),(45,.undef),(46,.undef),(47,.undef),(48,.undef),(51,.undef),(52,.undef),(53,.undef),(54,.undef),(55,.undef),(56,.undef),(57,.undef),(58,.undef),(59,.undef),(60,.undef),(61,.undef)],[(0,[.pv x4,.pv x5,.pv x6,.pv x7,.pv x8,.pv x9,.pv x10,.pv x11,.own 5,.pv x12,.own 6,.pv x13,.pv x14,.own 7,.pv x15,.pv x16,.own 8,.pv x17,.pv x18,.pv x19,.pv x20,.pv x21,.pv x22,.pv x23,.pv x24,.own 9,.pv x25,.own 10,.pv x26,.pv x27,.own 11,.pv x28,.pv x29,.own 12,.pv x30,.pv x31,.pv x32,.pv x33,.pv x34,.pv x35,.pv x36,.pv x37,.own 13,.pv x38,.own 14,.pv x39,.pv x40,.own 15,.pv x41,.pv x42,.own 16])],[(16,⟨.deep,317,2,x43⟩),(15,⟨.deep,3,1,x44⟩),(14,⟨.deep,3,1,x45⟩),(13,⟨.deep,3,1,x46⟩),(12,⟨.deep,317,2,x47⟩),(11,⟨.deep,3,1,x48⟩),(10,⟨.deep,3,1,x49⟩),(9,⟨.deep,3,1,x50⟩),(8,⟨.deep,317,2,x51⟩),(7,⟨.deep,3,1,x52⟩),(6,⟨.deep,3,1,x53⟩),(5,⟨.deep,3,1,x54⟩)],17,86,[]⟩)⟩]
theorem Qid_s:xaD [⟨[237],Qcu⟩,⟨[298],Qib⟩,⟨[299],Qia⟩,⟨[256],Qbm⟩] TT (kk [0,1,4,5,6,45,46,47,48,51,52,53,54,55,56,57,58,59,60,61,999999]) Qid_l f241 Qid_l:=⟨fun v K k h=>by
 apply xab h;(repeat intro _);rename_i h;exact km h
 ,trivial⟩
theorem Qid_w:EO ⟨[241],Qid⟩:=oN (ec Qcu_w (ec Qib_w (ec Qia_w (ec Qbm_w en)))) (keep:=(kk [0,1,4,5,6,45,46,47,48,51,52,53,54,55,56,57,58,59,60,61,999999])) (l:=Qid_l) func241 Qid_s fun av k h=>by
 unfold Qid at h;split at h
 ·exact km h
 ·exact h.elim
def Qie:GM
 | [.agg u0,.one a2],k=>un 2 (fun a0 a1 =>
  call Qbp [.agg [a0,a1]] fun o0 =>
  call Qic [.agg [a0,a1],.one a2] fun o1 =>
  xac .eql (atP o1 0) (I 1) fun r2 =>
  xad r2
   (xaK a0 fun r3 =>
   xac .geq r3 (I 8) fun r4 =>
   xad r4
    (rt [.pv,.pv,.sc] [(atP o0 0),(atP o0 1),(I 6)] k)
    (call Qbn [.one a2] fun o5 =>
    (1=1)∧(1≤16777216)∧(1=1)∧(0=0)∧(1=1)∧xbA 1 (atP o0 0) (.list 1 [[(atP o5 0)]]) fun r6 =>
    rt [.pv,.pv,.sc] [r6,(atP o0 1),(atP o1 0)] k))
   (xac .eql (atP o1 0) (I 3) fun r7 =>
   xad r7
    (xai 17 a2 (I 0) fun c8 =>
    call Qhz [.agg [a0,a1],.one (atP c8 0)] fun o9 =>
    call Qbn [.one a2] fun o10 =>
    xdA 1 (atP o0 0) (atP o9 0) fun n11 =>
    xlN (atP o0 0) n11 0 [(atP o10 0)] fun r12 =>
    rt [.pv,.pv,.sc] [r12,(atP o0 1),(atP o1 0)] k)
    (xac .eql (atP o1 0) (I 5) fun r13 =>
    xad r13
     (xai 17 a2 (I 0) fun c14 =>
     call Qhz [.agg [a0,a1],.one (atP c14 0)] fun o15 =>
     xai 1 a0 (atP o15 0) fun c16 =>
     call Qid [.one (atP c16 0),.one a2] fun o17 =>
     xad (atP o17 51)
      (xaK a1 fun r18 =>
      xac .lss r18 (I 8) fun r19 =>
      xad r19
       ((1=1)∧(51≤16777216)∧(51=51)∧(0=0)∧(51=51)∧xbA 51 (atP o0 1) (.list 51 [(s51 o17)]) fun r20 =>
       rt [.pv,.pv,.sc] [(atP o0 0),r20,(atP o1 0)] k)
       (rt [.pv,.pv,.sc] [(atP o0 0),(atP o0 1),(atP o1 0)] k))
      (rt [.pv,.pv,.sc] [(atP o0 0),(atP o0 1),(atP o1 0)] k))
     (rt [.pv,.pv,.sc] [(atP o0 0),(atP o0 1),(atP o1 0)] k)))) u0
 | _,_=>False
theorem Qie_w:EO ⟨[172],Qie⟩:=oNz (ec Qbp_w (ec Qic_w (ec Qbn_w (ec Qhz_w (ec Qid_w en))))) func172 fun av k h=>by
 unfold Qie at h;split at h
 ·apply xab h;clear h;intro a0 a1 h;exact km h
 ·exact h.elim
def Qif:GM
 | [.agg u0,.one a16],k=>un 16 (fun a0 a1 a2 a3 a4 a5 a6 a7 a8 a9 a10 a11 a12 a13 a14 a15 =>
  call Qbv [.one a16,.one a3,.one a4] fun o0 =>
  rt [.sc] [(atP o0 0)] k) u0
 | _,_=>False
theorem Qif_w:EO ⟨[242],Qif⟩:=oNz (ec Qbv_w en) func242 fun av k h=>by
 unfold Qif at h;split at h
 ·apply xab h;clear h;(repeat intro _);rename_i h;exact km h
 ·exact h.elim
def Qig_r0 (v:List PV) (K:List PV→Prop) (x0k:Prop) (x1k:Cur 7):Prop :=
 un 7 (fun v0 v1 v2 v3 v4 v5 v6 =>
  xac .gtr v2 (I 1) fun r0 =>
  xad r0
   (xac .rem v1 (I 2) fun r1 =>
   xac .eql r1 (I 1) fun r2 =>
   xad r2
    (xaK v3 fun r3 =>
    xac .geq v6 r3 fun r4 =>
    xad r4
     (x0k)
     (xac .rem v1 (I 2) fun r5 =>
     xac .eql r5 (I 1) fun r6 =>
     xad r6
      (xai 1 v3 v6 fun c7 =>
      call Qdg [.one (atP c7 0),.one v0] fun o8 =>
      xac .add v6 (I 1) fun r9 =>
      xac .quo v1 (I 2) fun r10 =>
      xac .add v2 (I 1) fun r11 =>
      xac .quo r11 (I 2) fun r12 =>
      K [(atP o8 0),r10,r12,v3,v4,v5,r9])
      (xai 1 v3 v6 fun c13 =>
      call Qdg [.one v0,.one (atP c13 0)] fun o14 =>
      xac .add v6 (I 1) fun r15 =>
      xac .quo v1 (I 2) fun r16 =>
      xac .add v2 (I 1) fun r17 =>
      xac .quo r17 (I 2) fun r18 =>
      K [(atP o14 0),r16,r18,v3,v4,v5,r15])))
    (xac .add v1 (I 1) fun r19 =>
    xac .lss r19 v2 fun r20 =>
    xad r20
     (xaK v3 fun r21 =>
     xac .geq v6 r21 fun r22 =>
     xad r22
      (x0k)
      (xac .rem v1 (I 2) fun r23 =>
      xac .eql r23 (I 1) fun r24 =>
      xad r24
       (xai 1 v3 v6 fun c25 =>
       call Qdg [.one (atP c25 0),.one v0] fun o26 =>
       xac .add v6 (I 1) fun r27 =>
       xac .quo v1 (I 2) fun r28 =>
       xac .add v2 (I 1) fun r29 =>
       xac .quo r29 (I 2) fun r30 =>
       K [(atP o26 0),r28,r30,v3,v4,v5,r27])
       (xai 1 v3 v6 fun c31 =>
       call Qdg [.one v0,.one (atP c31 0)] fun o32 =>
       xac .add v6 (I 1) fun r33 =>
       xac .quo v1 (I 2) fun r34 =>
       xac .add v2 (I 1) fun r35 =>
       xac .quo r35 (I 2) fun r36 =>
       K [(atP o32 0),r34,r36,v3,v4,v5,r33])))
     (xac .quo v1 (I 2) fun r37 =>
     xac .add v2 (I 1) fun r38 =>
     xac .quo r38 (I 2) fun r39 =>
     K [v0,r37,r39,v3,v4,v5,v6])))
   (x1k v0 v1 v2 v3 v4 v5 v6)) v
def Qig:GM
 | [.one a0,.one a1,.one a2,.one a3],k =>
  call Qbv [.one a2,.one (I 1),.one (I 12)] fun o0 =>
  unP .not (atP o0 0) fun r1 =>
  xad r1
   (rt [.sc,.sc] [(I 0),(.bool false)] k)
   (xac .sub a2 (I 1) fun r2 =>
   call Qbv [.one a1,.one (I 0),.one r2] fun o3 =>
   unP .not (atP o3 0) fun r4 =>
   xad r4
    (rt [.sc,.sc] [(I 0),(.bool false)] k)
    (lp (fun L w=>Qig_r0 w L
     (rt [.sc,.sc] [(I 0),(.bool false)] k)
     (fun q40 q41 q42 q43 q44 q45 q46=>xaK q43 fun r47 =>
      xac .neq q46 r47 fun r48 =>
      xad r48
       (rt [.sc,.sc] [(I 0),(.bool false)] k)
       (rt [.sc,.sc] [q40,(.bool true)] k))) [a0,a1,a2,a3,(I 0),(.bool false),(I 0)]))
 | _,_=>False
def Qig_l:List LE:=[⟨none,0,⟨[(0,.one zB),(1,.one zB),(2,.one zB),(3,.one zB),(8,.one zB),(9,.one zB),(10,.one zB)],[],[],2,63,[]⟩,fun K k v=>Qig_r0 v K (k .ret ⟨[(8,.one (.pv (I 0))),(9,.one (.kb false))],[],[],2,63,[]⟩) (fun x0 x1 x2 x3 x4 x5 x6=>k (.exit 0) ⟨[(0,.one (.pv x0)),(1,.one (.pv x1)),(2,.one (.pv x2)),(3,.one (.pv x3)),(8,.one (.pv x4)),(9,.one (.pv x5)),(10,.one (.pv x6))],[],[],2,63,[]⟩)⟩]
theorem Qig_s:xaD [⟨[133],Qbv⟩,⟨[398],Qdg⟩] TT (kk [0,1,2,3,8,9,10,27,28,29,30,999999]) Qig_l f351 Qig_l:=⟨fun v K k h=>by
 apply xab h;exact fun v0 v1 v2 v3 v4 v5 v6 h=>km h
 ,trivial⟩
theorem Qig_w:EO ⟨[351],Qig⟩:=oN (ec Qbv_w (ec Qdg_w en)) (keep:=(kk [0,1,2,3,8,9,10,27,28,29,30,999999])) (l:=Qig_l) func351 Qig_s fun av k h=>by
 unfold Qig at h;split at h
 ·exact km h
 ·exact h.elim
def Qih:GM
 | [.one a0,.one a1,.agg u0,.agg u1],k=>un 4 (fun a2 a3 a4 a5=>un 2 (fun a6 a7 =>
  call Qde [.agg [a2,a3,a4,a5]] fun o0 =>
  call Qig [.one (atP o0 0),.one a6,.one a1,.one a7] fun o1 =>
  call Qcy [.agg [a2,a3,a4,a5]] fun o2 =>
  xad (atP o2 0)
   (xad (atP o1 1)
    (call Qdj [.one a1,.one (atP o1 0)] fun o3 =>
    xac .eql (atP o3 0) a0 fun r4 =>
    rt [.sc] [r4] k)
    (rt [.sc] [(.bool false)] k))
   (rt [.sc] [(.bool false)] k)) u1) u0
 | _,_=>False
theorem Qih_w:EO ⟨[300],Qih⟩:=oNz (ec Qde_w (ec Qig_w (ec Qcy_w (ec Qdj_w en)))) func300 fun av k h=>by
 unfold Qih at h;split at h
 ·apply xab h;clear h;intro a2 a3 a4 a5 h;apply xab h;clear h;intro a6 a7 h;exact km h
 ·exact h.elim
def Qii_r0 (v:List PV) (K:List PV→Prop) (x0k:Prop) (x1k:Cur 4):Prop :=
 un 4 (fun v0 v1 v2 v3 =>
  xaK v0 fun r0 =>
  xac .lss v3 r0 fun r1 =>
  xad r1
   (xai 1 v0 v3 fun c2 =>
   xai 1 v1 v3 fun c3 =>
   xac .neq (atP c2 0) (atP c3 0) fun r4 =>
   xad r4
    (x0k)
    (xac .add v3 (I 1) fun r5 =>
    K [v0,v1,v2,r5]))
   (x1k v0 v1 v2 v3)) v
def Qii:GM
 | [.one a0,.one a1],k =>
  xaK a0 fun r0 =>
  xaK a1 fun r1 =>
  xac .neq r0 r1 fun r2 =>
  xad r2
   (rt [.sc] [(.bool false)] k)
   (lp (fun L w=>Qii_r0 w L
    (rt [.sc] [(.bool false)] k)
    (fun q6 q7 q8 q9=>rt [.sc] [(.bool true)] k)) [a0,a1,(.bool false),(I 0)])
 | _,_=>False
def Qii_l:List LE:=[⟨none,0,⟨[(0,.one zB),(1,.one zB),(4,.one zB),(5,.one zB)],[],[],0,26,[]⟩,fun K k v=>Qii_r0 v K (k .ret ⟨[(4,.one (.kb false))],[],[],0,26,[]⟩) (fun x0 x1 x2 x3=>k (.exit 0) ⟨[(0,.one (.pv x0)),(1,.one (.pv x1)),(4,.one (.pv x2)),(5,.one (.pv x3))],[],[],0,26,[]⟩)⟩]
theorem Qii_s:xaD [] TT (kk [0,1,4,5,999999]) Qii_l f400 Qii_l:=⟨fun v K k h=>by
 apply xab h;exact fun v0 v1 v2 v3 h=>km h
 ,trivial⟩
theorem Qii_w:EO ⟨[400],Qii⟩:=oN en (keep:=(kk [0,1,4,5,999999])) (l:=Qii_l) func400 Qii_s fun av k h=>by
 unfold Qii at h;split at h
 ·exact km h
 ·exact h.elim
def Qij:GM
 | [.agg u0,.agg u1],k=>un 4 (fun a0 a1 a2 a3=>un 4 (fun a4 a5 a6 a7 =>
  xac .eql a0 a4 fun r0 =>
  xad r0
   (xac .eql a1 a5 fun r1 =>
   xad r1
    (xac .eql a2 a6 fun r2 =>
    xad r2
     (call Qii [.one a3,.one a7] fun o3 =>
     rt [.sc] [(atP o3 0)] k)
     (rt [.sc] [(.bool false)] k))
    (rt [.sc] [(.bool false)] k))
   (rt [.sc] [(.bool false)] k)) u1) u0
 | _,_=>False
theorem Qij_w:EO ⟨[353],Qij⟩:=oNz (ec Qii_w en) func353 fun av k h=>by
 unfold Qij at h;split at h
 ·apply xab h;clear h;intro a0 a1 a2 a3 h;apply xab h;clear h;intro a4 a5 a6 a7 h;exact km h
 ·exact h.elim
def Qik:GM
 | [.agg u0,.agg u1],k=>un 2 (fun a0 a1=>un 2 (fun a2 a3 =>
  xac .eql a0 a2 fun r0 =>
  xad r0
   (call Qcm [.one a1,.one a3] fun o1 =>
   rt [.sc] [(atP o1 0)] k)
   (rt [.sc] [(.bool false)] k)) u1) u0
 | _,_=>False
theorem Qik_w:EO ⟨[354],Qik⟩:=oNz (ec Qcm_w en) func354 fun av k h=>by
 unfold Qik at h;split at h
 ·apply xab h;clear h;intro a0 a1 h;apply xab h;clear h;intro a2 a3 h;exact km h
 ·exact h.elim
def Qil:GM
 | [.agg u0,.agg u1],k=>un 13 (fun a0 a1 a2 a3 a4 a5 a6 a7 a8 a9 a10 a11 a12=>un 13 (fun a13 a14 a15 a16 a17 a18 a19 a20 a21 a22 a23 a24 a25 =>
  xac .eql a0 a13 fun r0 =>
  xad r0
   (call Qij [.agg [a1,a2,a3,a4],.agg [a14,a15,a16,a17]] fun o1 =>
   xad (atP o1 0)
    (call Qij [.agg [a5,a6,a7,a8],.agg [a18,a19,a20,a21]] fun o2 =>
    xad (atP o2 0)
     (call Qik [.agg [a9,a10],.agg [a22,a23]] fun o3 =>
     xad (atP o3 0)
      (call Qik [.agg [a11,a12],.agg [a24,a25]] fun o4 =>
      rt [.sc] [(atP o4 0)] k)
      (rt [.sc] [(.bool false)] k))
     (rt [.sc] [(.bool false)] k))
    (rt [.sc] [(.bool false)] k))
   (rt [.sc] [(.bool false)] k)) u1) u0
 | _,_=>False
theorem Qil_w:EO ⟨[301],Qil⟩:=oNz (ec Qij_w (ec Qik_w en)) func301 fun av k h=>by
 unfold Qil at h;split at h
 ·apply xab h;clear h;(repeat intro _);rename_i h;apply xab h;clear h;(repeat intro _);rename_i h;exact km h
 ·exact h.elim
def Qim:GM
 | [.agg u0,.agg u1],k=>un 4 (fun a0 a1 a2 a3=>un 2 (fun a4 a5 =>
  call Qij [.agg [a0,a1,a2,a3],.agg [(.str ⟨#[]⟩),(I 0),(I 0),(.list 1 [])]] fun o0 =>
  xad (atP o0 0)
   (call Qik [.agg [a4,a5],.agg [(I 0),(.list 1 [])]] fun o1 =>
   rt [.sc] [(atP o1 0)] k)
   (rt [.sc] [(.bool false)] k)) u1) u0
 | _,_=>False
theorem Qim_w:EO ⟨[303],Qim⟩:=oNz (ec Qij_w (ec Qik_w en)) func303 fun av k h=>by
 unfold Qim at h;split at h
 ·apply xab h;clear h;intro a0 a1 a2 a3 h;apply xab h;clear h;intro a4 a5 h;exact km h
 ·exact h.elim
def Qin:GM
 | [.one a0,.one a1,.one a2,.agg u0],k=>un 13 (fun a3 a4 a5 a6 a7 a8 a9 a10 a11 a12 a13 a14 a15 =>
  let F1:=xac .eql a3 a1 fun r10 =>
   xad r10
   (call Qim [.agg [a8,a9,a10,a11],.agg [a14,a15]] fun o11 =>
   rt [.sc] [(atP o11 0)] k)
   (call Qih [.one a0,.one a1,.agg [a8,a9,a10,a11],.agg [a14,a15]] fun o12 =>
   xad (atP o12 0)
   (xac .eql a14 a3 fun r13 =>
   xad r13
   (call Qcz [.one a8,.one a2] fun o14 =>
   xac .eql (atP o14 0) (I 1) fun r15 =>
   rt [.sc] [r15] k)
   (rt [.sc] [(.bool false)] k))
   (rt [.sc] [(.bool false)] k))
  let F0:=xac .eql a3 (I 0) fun r7 =>
   xad r7
   (call Qim [.agg [a4,a5,a6,a7],.agg [a12,a13]] fun o8 =>
   unP .not (atP o8 0) fun r9 =>
   xad r9
   (rt [.sc] [(.bool false)] k)
   (F1))
   (call Qih [.one a0,.one a1,.agg [a4,a5,a6,a7],.agg [a12,a13]] fun o16 =>
   unP .not (atP o16 0) fun r17 =>
   xad r17
   (rt [.sc] [(.bool false)] k)
   (xac .sub a3 (I 1) fun r18 =>
   xac .neq a12 r18 fun r19 =>
   xad r19
   (rt [.sc] [(.bool false)] k)
   (call Qcz [.one a4,.one a2] fun o20 =>
   xac .neq (atP o20 0) (I (-1)) fun r21 =>
   xad r21
   (rt [.sc] [(.bool false)] k)
   (F1))))
  call Qcw [.one a2] fun o0 =>
  unP .not (atP o0 0) fun r1 =>
  xad r1
   (rt [.sc] [(.bool false)] k)
   (call Qbv [.one a3,.one (I 0),.one a1] fun o2 =>
   unP .not (atP o2 0) fun r3 =>
   xad r3
    (rt [.sc] [(.bool false)] k)
    (xac .eql a1 (I 0) fun r4 =>
    xad r4
     ((0=0)∧(0≤16777216)∧(4=4)∧call Qdk [.one (.list 4 [])] fun o5 =>
     xac .neq a0 (atP o5 0) fun r6 =>
     xad r6
      (rt [.sc] [(.bool false)] k)
      (F0))
     (F0)))) u0
 | _,_=>False
theorem Qin_w:EO ⟨[302],Qin⟩:=oNz (ec Qcw_w (ec Qbv_w (ec Qdk_w (ec Qim_w (ec Qih_w (ec Qcz_w en)))))) func302 fun av k h=>by
 unfold Qin at h;split at h
 ·apply xab h;clear h;(repeat intro _);rename_i h;exact km h
 ·exact h.elim
def Qio:GM
 | [.agg u0,.one a16,.agg u1],k=>un 16 (fun a0 a1 a2 a3 a4 a5 a6 a7 a8 a9 a10 a11 a12 a13 a14 a15=>un 21 (fun a17 a18 a19 a20 a21 a22 a23 a24 a25 a26 a27 a28 a29 a30 a31 a32 a33 a34 a35 a36 a37 =>
  xad a18
   (xac .eql a19 a16 fun r0 =>
   xad r0
    (call Qih [.one a6,.one a5,.agg [a19,a20,a21,a22],.agg [a23,a24]] fun o1 =>
    xad (atP o1 0)
     (call Qil [.agg [a25,a26,a27,a28,a29,a30,a31,a32,a33,a34,a35,a36,a37],.agg [(I 0),(.str ⟨#[]⟩),(I 0),(I 0),(.list 1 []),(.str ⟨#[]⟩),(I 0),(I 0),(.list 1 []),(I 0),(.list 1 []),(I 0),(.list 1 [])]] fun o2 =>
     rt [.sc] [(atP o2 0)] k)
     (rt [.sc] [(.bool false)] k))
    (rt [.sc] [(.bool false)] k))
   (call Qin [.one a6,.one a5,.one a16,.agg [a25,a26,a27,a28,a29,a30,a31,a32,a33,a34,a35,a36,a37]] fun o3 =>
   xad (atP o3 0)
    (call Qim [.agg [a19,a20,a21,a22],.agg [a23,a24]] fun o4 =>
    rt [.sc] [(atP o4 0)] k)
    (rt [.sc] [(.bool false)] k))) u1) u0
 | _,_=>False
theorem Qio_w:EO ⟨[243],Qio⟩:=oNz (ec Qih_w (ec Qil_w (ec Qin_w (ec Qim_w en)))) func243 fun av k h=>by
 unfold Qio at h;split at h
 ·apply xab h;clear h;(repeat intro _);rename_i h;apply xab h;clear h;(repeat intro _);rename_i h;exact km h
 ·exact h.elim
def Qip:GM
 | [.one a0,.one a1,.agg u0,.one a23],k=>un 21 (fun a2 a3 a4 a5 a6 a7 a8 a9 a10 a11 a12 a13 a14 a15 a16 a17 a18 a19 a20 a21 a22 =>
  call Qcv [.one a2] fun o0 =>
  unP .not (atP o0 16) fun r1 =>
  xad r1
   (rt [.sc] [(I 3)] k)
   (xac .neq (atP o0 0) a0 fun r2 =>
   xad r2
    (rt [.sc] [(I 2)] k)
    (call Qif [.agg [(atP o0 0),(atP o0 1),(atP o0 2),(atP o0 3),(atP o0 4),(atP o0 5),(atP o0 6),(atP o0 7),(atP o0 8),(atP o0 9),(atP o0 10),(atP o0 11),(atP o0 12),(atP o0 13),(atP o0 14),(atP o0 15)],.one a23] fun o3 =>
    unP .not (atP o3 0) fun r4 =>
    xad r4
     (rt [.sc] [(I 4)] k)
     (xad (atP o0 15)
      (rt [.sc] [(I 5)] k)
      (call Qio [.agg [(atP o0 0),(atP o0 1),(atP o0 2),(atP o0 3),(atP o0 4),(atP o0 5),(atP o0 6),(atP o0 7),(atP o0 8),(atP o0 9),(atP o0 10),(atP o0 11),(atP o0 12),(atP o0 13),(atP o0 14),(atP o0 15)],.one a1,.agg [a2,a3,a4,a5,a6,a7,a8,a9,a10,a11,a12,a13,a14,a15,a16,a17,a18,a19,a20,a21,a22]] fun o5 =>
      unP .not (atP o5 0) fun r6 =>
      xad r6
       (rt [.sc] [(I 6)] k)
       (rt [.sc] [(I 1)] k)))))) u0
 | _,_=>False
theorem Qip_w:EO ⟨[173],Qip⟩:=oNz (ec Qcv_w (ec Qif_w (ec Qio_w en))) func173 fun av k h=>by
 unfold Qip at h;split at h
 ·apply xab h;clear h;(repeat intro _);rename_i h;exact km h
 ·exact h.elim
def Qiq_r0 (v:List PV) (K:List PV→Prop) (x0k:Prop) (x1k:Cur 36):Prop :=
 un 36 (fun v0 v1 v2 v3 v4 v5 v6 v7 v8 v9 v10 v11 v12 v13 v14 v15 v16 v17 v18 v19 v20 v21 v22 v23 v24 v25 v26 v27 v28 v29 v30 v31 v32 v33 v34 v35 =>
  xaK v35 fun r0 =>
  xac .lss v1 r0 fun r1 =>
  xad r1
   (xai 2 v35 v1 fun c2 =>
   xai 2 v18 v1 fun c3 =>
   (xet [.pv (I 0),.pv (I 0)] [(atP c2 0),(atP c2 1)])∧(xet [.pv (I 0),.pv (I 0)] [(atP c3 0),(atP c3 1)])∧xsx .neq [(atP c2 0),(atP c2 1)] [(atP c3 0),(atP c3 1)] fun r4 =>
   xad r4
    (x0k)
    (xac .add v1 (I 1) fun r5 =>
    K [v0,r5,v2,v3,v4,v5,v6,v7,v8,v9,v10,v11,v12,v13,v14,v15,v16,v17,v18,v19,v20,v21,v22,v23,v24,v25,v26,v27,v28,v29,v30,v31,v32,v33,v34,v35]))
   (x1k v0 v1 v2 v3 v4 v5 v6 v7 v8 v9 v10 v11 v12 v13 v14 v15 v16 v17 v18 v19 v20 v21 v22 v23 v24 v25 v26 v27 v28 v29 v30 v31 v32 v33 v34 v35)) v
def Qiq:GM
 | [.agg u0,.agg u1],k=>un 17 (fun a0 a1 a2 a3 a4 a5 a6 a7 a8 a9 a10 a11 a12 a13 a14 a15 a16=>un 17 (fun a17 a18 a19 a20 a21 a22 a23 a24 a25 a26 a27 a28 a29 a30 a31 a32 a33 =>
  call Qia [.agg [a0,a1,a2,a3,a4,a5,a6,a7,a8,a9,a10,a11,a12,a13,a14,a15],.agg [a17,a18,a19,a20,a21,a22,a23,a24,a25,a26,a27,a28,a29,a30,a31,a32]] fun o0 =>
  unP .not (atP o0 0) fun r1 =>
  xad r1
   (rt [.sc] [(.bool false)] k)
   (xaK a16 fun r2 =>
   xaK a33 fun r3 =>
   xac .neq r2 r3 fun r4 =>
   xad r4
    (rt [.sc] [(.bool false)] k)
    (lp (fun L w=>Qiq_r0 w L
     (rt [.sc] [(.bool false)] k)
     (fun q6 q7 q8 q9 q10 q11 q12 q13 q14 q15 q16 q17 q18 q19 q20 q21 q22 q23 q24 q25 q26 q27 q28 q29 q30 q31 q32 q33 q34 q35 q36 q37 q38 q39 q40 q41=>rt [.sc] [(.bool true)] k)) [(.bool false),(I 0),a17,a18,a19,a20,a21,a22,a23,a24,a25,a26,a27,a28,a29,a30,a31,a32,a33,a0,a1,a2,a3,a4,a5,a6,a7,a8,a9,a10,a11,a12,a13,a14,a15,a16]))) u1) u0
 | _,_=>False
def Qiq_l:List LE:=[⟨none,0,⟨[(2,.one (.ptr 0 0)),(3,.one (.ptr 1 0)),(4,.one zB),(5,.one zB)],[(1,[zB,zB,zB,zB,zB,zB,zB,zB,zB,zB,zB,zB,zB,zB,zB,zB,zB]),(0,[zB,zB,zB,zB,zB,zB,zB,zB,zB,zB,zB,zB,zB,zB,zB,zB,zB])],[],3,39,[]⟩,fun K k v=>Qiq_r0 v K (k .ret ⟨[(4,.one (.kb false))],[],[],3,39,[]⟩) (fun x0 x1 x2 x3 x4 x5 x6 x7 x8 x9 x10 x11 x12 x13 x14 x15 x16 x17 x18 x19 x20 x21 x22 x23 x24 x25 x26 x27 x28 x29 x30 x31 x32 x33 x34 x35=>k (.exit 0) ⟨[(2,.one (.ptr 0 0)),(3,.one (.ptr 1 0)),(4,.one (.pv x0)),(5,.one (.pv x1))],[(1,[.pv x2,.pv x3,.pv x4,.pv x5,.pv x6,.pv x7,.pv x8,.pv x9,.pv x10,.pv x11,.pv x12,.pv x13,.pv x14,.pv x15,.pv x16,.pv x17,.pv x18]),(0,[.pv x19,.pv x20,.pv x21,.pv x22,.pv x23,.pv x24,.pv x25,.pv x26,.pv x27,.pv x28,.pv x29,.pv x30,.pv x31,.pv x32,.pv x33,.pv x34,.pv x35])],[],3,39,[]⟩)⟩]
theorem Qiq_s:xaD [⟨[299],Qia⟩] TT (kk [2,3,4,5,999999]) Qiq_l f355 Qiq_l:=⟨fun v K k h=>by
 apply xab h;(repeat intro _);rename_i h;exact km h
 ,trivial⟩
theorem Qiq_w:EO ⟨[355],Qiq⟩:=oN (ec Qia_w en) (keep:=(kk [2,3,4,5,999999])) (l:=Qiq_l) func355 Qiq_s fun av k h=>by
 unfold Qiq at h;split at h
 ·apply xab h;clear h;(repeat intro _);rename_i h;apply xab h;clear h;(repeat intro _);rename_i h;exact km h
 ·exact h.elim
def Qir:GM
 | [.agg u0],k=>un 51 (fun a0 a1 a2 a3 a4 a5 a6 a7 a8 a9 a10 a11 a12 a13 a14 a15 a16 a17 a18 a19 a20 a21 a22 a23 a24 a25 a26 a27 a28 a29 a30 a31 a32 a33 a34 a35 a36 a37 a38 a39 a40 a41 a42 a43 a44 a45 a46 a47 a48 a49 a50 =>
  call Qia [.agg [a17,a18,a19,a20,a21,a22,a23,a24,a25,a26,a27,a28,a29,a30,a31,a32],.agg [a34,a35,a36,a37,a38,a39,a40,a41,a42,a43,a44,a45,a46,a47,a48,a49]] fun o0 =>
  xad (atP o0 0)
   (rt [.sc] [(.bool false)] k)
   (call Qiq [.agg [a0,a1,a2,a3,a4,a5,a6,a7,a8,a9,a10,a11,a12,a13,a14,a15,a16],.agg [(I 0),(I 0),(I 0),(I 0),(I 0),(I 0),(I 0),(I 0),(.list 1 []),(I 0),(.list 1 []),(I 0),(I 0),(.list 1 []),(I 0),(.bool false),(.list 2 [])]] fun o1 =>
   xad (atP o1 0)
    (call Qcj [.agg [a17,a18,a19,a20,a21,a22,a23,a24,a25,a26,a27,a28,a29,a30,a31,a32,a33]] fun o2 =>
    xad (atP o2 0)
     (call Qcj [.agg [a34,a35,a36,a37,a38,a39,a40,a41,a42,a43,a44,a45,a46,a47,a48,a49,a50]] fun o3 =>
     xad (atP o3 0)
      (xac .eql a17 a34 fun r4 =>
      rt [.sc] [r4] k)
      (rt [.sc] [(.bool false)] k))
     (rt [.sc] [(.bool false)] k))
    (call Qcs [.agg [a0,a1,a2,a3,a4,a5,a6,a7,a8,a9,a10,a11,a12,a13,a14,a15],.agg [a17,a18,a19,a20,a21,a22,a23,a24,a25,a26,a27,a28,a29,a30,a31,a32,a33]] fun o5 =>
    xad (atP o5 0)
     (call Qcs [.agg [a0,a1,a2,a3,a4,a5,a6,a7,a8,a9,a10,a11,a12,a13,a14,a15],.agg [a34,a35,a36,a37,a38,a39,a40,a41,a42,a43,a44,a45,a46,a47,a48,a49,a50]] fun o6 =>
     rt [.sc] [(atP o6 0)] k)
     (rt [.sc] [(.bool false)] k)))) u0
 | _,_=>False
theorem Qir_w:EO ⟨[304],Qir⟩:=oNz (ec Qia_w (ec Qiq_w (ec Qcj_w (ec Qcs_w en)))) func304 fun av k h=>by
 unfold Qir at h;split at h
 ·apply xab h;clear h;(repeat intro _);rename_i h;exact km h
 ·exact h.elim
def Qis:GM
 | [.agg u0],k=>un 51 (fun a0 a1 a2 a3 a4 a5 a6 a7 a8 a9 a10 a11 a12 a13 a14 a15 a16 a17 a18 a19 a20 a21 a22 a23 a24 a25 a26 a27 a28 a29 a30 a31 a32 a33 a34 a35 a36 a37 a38 a39 a40 a41 a42 a43 a44 a45 a46 a47 a48 a49 a50 =>
  call Qir [.agg [a0,a1,a2,a3,a4,a5,a6,a7,a8,a9,a10,a11,a12,a13,a14,a15,a16,a17,a18,a19,a20,a21,a22,a23,a24,a25,a26,a27,a28,a29,a30,a31,a32,a33,a34,a35,a36,a37,a38,a39,a40,a41,a42,a43,a44,a45,a46,a47,a48,a49,a50]] fun o0 =>
  unP .not (atP o0 0) fun r1 =>
  xad r1
   (rt [.sc] [(I (-1))] k)
   (rt [.sc] [a17] k)) u0
 | _,_=>False
theorem Qis_w:EO ⟨[244],Qis⟩:=oNz (ec Qir_w en) func244 fun av k h=>by
 unfold Qis at h;split at h
 ·apply xab h;clear h;(repeat intro _);rename_i h;exact km h
 ·exact h.elim
def Qit_r0 (v:List PV) (K:List PV→Prop) (x0k:Prop) (x1k:Cur 5):Prop :=
 un 5 (fun v0 v1 v2 v3 v4 =>
  xaK v4 fun r0 =>
  xac .lss v2 r0 fun r1 =>
  xad r1
   (xai 51 v4 v2 fun c2 =>
   call Qis [.agg [(atP c2 0),(atP c2 1),(atP c2 2),(atP c2 3),(atP c2 4),(atP c2 5),(atP c2 6),(atP c2 7),(atP c2 8),(atP c2 9),(atP c2 10),(atP c2 11),(atP c2 12),(atP c2 13),(atP c2 14),(atP c2 15),(atP c2 16),(atP c2 17),(atP c2 18),(atP c2 19),(atP c2 20),(atP c2 21),(atP c2 22),(atP c2 23),(atP c2 24),(atP c2 25),(atP c2 26),(atP c2 27),(atP c2 28),(atP c2 29),(atP c2 30),(atP c2 31),(atP c2 32),(atP c2 33),(atP c2 34),(atP c2 35),(atP c2 36),(atP c2 37),(atP c2 38),(atP c2 39),(atP c2 40),(atP c2 41),(atP c2 42),(atP c2 43),(atP c2 44),(atP c2 45),(atP c2 46),(atP c2 47),(atP c2 48),(atP c2 49),(atP c2 50)]] fun o3 =>
   xac .eql (atP o3 0) v0 fun r4 =>
   xad r4
    (xac .geq v0 (I 0) fun r5 =>
    xad r5
     (x0k)
     (xac .add v2 (I 1) fun r6 =>
     K [v0,v1,r6,v3,v4]))
    (xac .add v2 (I 1) fun r7 =>
    K [v0,v1,r7,v3,v4]))
   (x1k v0 v1 v2 v3 v4)) v
def Qit:GM
 | [.agg u0,.one a2],k=>un 2 (fun a0 a1 =>
  lp (fun L w=>Qit_r0 w L
   (rt [.sc] [(.bool true)] k)
   (fun q8 q9 q10 q11 q12=>rt [.sc] [(.bool false)] k)) [a2,(.bool false),(I 0),a0,a1]) u0
 | _,_=>False
def Qit_l:List LE:=[⟨none,0,⟨[(1,.one zB),(2,.one (.ptr 0 0)),(4,.one zB),(5,.one zB)],[(0,[zB,zB])],[],1,25,[]⟩,fun K k v=>Qit_r0 v K (k .ret ⟨[(4,.one (.kb true))],[],[],2,25,[]⟩) (fun x0 x1 x2 x3 x4=>k (.exit 0) ⟨[(1,.one (.pv x0)),(2,.one (.ptr 0 0)),(4,.one (.pv x1)),(5,.one (.pv x2))],[(0,[.pv x3,.pv x4])],[],1,25,[]⟩)⟩]
theorem Qit_s:xaD [⟨[244],Qis⟩] TT (kk [1,2,4,5,22,23,999999]) Qit_l f174 Qit_l:=⟨fun v K k h=>by
 apply xab h;exact fun v0 v1 v2 v3 v4 h=>km h
 ,trivial⟩
theorem Qit_w:EO ⟨[174],Qit⟩:=oN (ec Qis_w en) (keep:=(kk [1,2,4,5,22,23,999999])) (l:=Qit_l) func174 Qit_s fun av k h=>by
 unfold Qit at h;split at h
 ·apply xab h;clear h;intro a0 a1 h;exact km h
 ·exact h.elim
end Go.Ev
