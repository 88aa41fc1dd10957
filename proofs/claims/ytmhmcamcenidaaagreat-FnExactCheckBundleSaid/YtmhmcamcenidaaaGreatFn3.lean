/- For each function the meaning that the evaluator gives it, proved, part 3. -/
import Derived.Test.YtmhmcamcenidaaaGreatFn2
set_option linter.unusedVariables false
set_option linter.unusedSimpArgs false
set_option maxRecDepth 100000
namespace Go.Ev
open Go.Proofs Go.Proofs.Tryz
abbrev heldForkS_H:Fr:=⟨[(0,.one zB),(1,.one zB),(4,.one zB),(5,.one zB)],[],[],0,595,[]⟩
abbrev heldForkS_F0:Fr:=⟨[(9,.one (.kb true)),(8,.one zB),(0,.one zB),(1,.one zB),(4,.one zB),(5,.one zB)],[],[],0,595,[]⟩
abbrev heldForkS_F1:Fr:=⟨[(1,.one zB),(123,.one zB),(122,.one zB),(0,.one zB),(4,.one zB),(5,.one zB)],[],[],1,595,[]⟩
abbrev heldForkS_F2:Fr:=⟨[(1,.one zB),(238,.one zB),(237,.one zB),(0,.one zB),(4,.one zB),(5,.one zB)],[],[],4,595,[]⟩
abbrev heldForkS_F3:Fr:=⟨[(1,.one zB),(352,.one zB),(351,.one zB),(0,.one zB),(4,.one zB),(5,.one zB)],[],[],6,595,[]⟩
abbrev heldForkS_F4:Fr:=⟨[(1,.one zB),(465,.one zB),(464,.one zB),(0,.one zB),(4,.one zB),(5,.one zB)],[],[],8,595,[]⟩
abbrev heldForkS_F5:Fr:=⟨[(1,.one zB),(583,.one zB),(582,.one zB),(0,.one zB),(4,.one zB),(5,.one zB)],[],[],11,595,[]⟩
abbrev heldForkS_F6:Fr:=⟨[(593,.one (.kb false)),(592,.one zB),(1,.one zB),(0,.one zB),(4,.one zB),(5,.one zB)],[],[],12,595,[]⟩
abbrev heldForkS_x0 (x0 x1 x2 x3:PV):Fr:=⟨[(0,.one (.pv x0)),(1,.one (.pv x1)),(4,.one (.pv x2)),(5,.one (.pv x3))],[],[],0,595,[]⟩
abbrev heldForkS_x1:Fr:=⟨[(4,.one (.pv (I (-1))))],[],[],0,595,[]⟩
abbrev heldForkS_x2:Fr:=⟨[(4,.one (.pv (I (-1))))],[],[],1,595,[]⟩
abbrev heldForkS_x3:Fr:=⟨[(4,.one (.pv (I (-1))))],[],[],2,595,[]⟩
abbrev heldForkS_x4:Fr:=⟨[(4,.one (.pv (I (-1))))],[],[],3,595,[]⟩
abbrev heldForkS_x5:Fr:=⟨[(4,.one (.pv (I (-1))))],[],[],4,595,[]⟩
abbrev heldForkS_x6:Fr:=⟨[(4,.one (.pv (I (-1))))],[],[],5,595,[]⟩
abbrev heldForkS_x7:Fr:=⟨[(4,.one (.pv (I (-1))))],[],[],6,595,[]⟩
abbrev heldForkS_x8:Fr:=⟨[(4,.one (.pv (I (-1))))],[],[],7,595,[]⟩
abbrev heldForkS_x9:Fr:=⟨[(4,.one (.pv (I (-1))))],[],[],8,595,[]⟩
abbrev heldForkS_x10:Fr:=⟨[(4,.one (.pv (I (-1))))],[],[],9,595,[]⟩
abbrev heldForkS_x11:Fr:=⟨[(4,.one (.pv (I (-1))))],[],[],10,595,[]⟩
abbrev heldForkS_x12:Fr:=⟨[(4,.one (.pv (I (-1))))],[],[],11,595,[]⟩
abbrev heldForkS_x13:Fr:=⟨[(4,.one (.pv (I (-1))))],[],[],12,595,[]⟩
def heldForkS_a (K:PV→PV→PV→PV→PV→Prop) (x0k:PV→PV→PV→PV→Prop) (x1k x2k x3k x4k x5k x6k x7k x8k x9k x10k x11k x12k x13k:Prop) (v0 v1 v2 v3:PV):Prop :=
 xaH v0 fun r0 =>
 xac .lss v3 r0 fun r1 =>
 xad r1
  (K r0 v0 v1 v2 v3)
  (x0k v0 v1 v2 v3)
def heldForkS_p0 (K:PV→PV→PV→PV→PV→PV→Prop) (x0k:PV→PV→PV→PV→Prop) (x1k x2k x3k x4k x5k x6k x7k x8k x9k x10k x11k x12k x13k:Prop) (w0 w1 w2 w3 w4:PV):Prop :=
 xaj 51 w1 w4 fun c0 =>
 xac .neq (atP c0 0) w2 fun r1 =>
 xad r1
  (x1k)
  (xac .add w2 (I 1) fun r2 =>
  xaj 51 w1 w4 fun c3 =>
  xac .neq (atP c3 1) r2 fun r4 =>
  xad r4
   (x1k)
   (xac .add r2 (I 1) fun r5 =>
   xaj 51 w1 w4 fun c6 =>
   xac .neq (atP c6 2) r5 fun r7 =>
   xad r7
    (x1k)
    (xac .add r5 (I 1) fun r8 =>
    xaj 51 w1 w4 fun c9 =>
    xac .neq (atP c9 3) r8 fun r10 =>
    xad r10
     (x1k)
     (xac .add r8 (I 1) fun r11 =>
     xaj 51 w1 w4 fun c12 =>
     xac .neq (atP c12 4) r11 fun r13 =>
     xad r13
      (x1k)
      (xac .add r11 (I 1) fun r14 =>
      xaj 51 w1 w4 fun c15 =>
      xac .neq (atP c15 5) r14 fun r16 =>
      xad r16
       (x1k)
       (xac .add r14 (I 1) fun r17 =>
       xaj 51 w1 w4 fun c18 =>
       xac .neq (atP c18 6) r17 fun r19 =>
       xad r19
        (x1k)
        (xac .add r17 (I 1) fun r20 =>
        xaj 51 w1 w4 fun c21 =>
        xac .neq (atP c21 7) r20 fun r22 =>
        xad r22
         (x1k)
         (xac .add r20 (I 1) fun r23 =>
         xaj 51 w1 w4 fun c24 =>
         call Qhb [.one (atP c24 8),.one r23] fun o25 =>
         xac .lss (atP o25 0) (I 0) fun r26 =>
         xad r26
          (x2k)
          (xaj 51 w1 w4 fun c27 =>
          xac .neq (atP c27 9) (atP o25 0) fun r28 =>
          xad r28
           (x2k)
           (xac .add (atP o25 0) (I 1) fun r29 =>
           K r29 r29 (atP o25 0) w1 w3 w4))))))))))
def heldForkS_p1 (K:PV→PV→PV→PV→PV→PV→Prop) (x0k:PV→PV→PV→PV→Prop) (x1k x2k x3k x4k x5k x6k x7k x8k x9k x10k x11k x12k x13k:Prop) (w0 w1 w2 w3 w4 w5:PV):Prop :=
 xaj 51 w3 w5 fun c0 =>
 call Qhb [.one (atP c0 10),.one w0] fun o1 =>
 xac .lss (atP o1 0) (I 0) fun r2 =>
 xad r2
  (x3k)
  (xaj 51 w3 w5 fun c3 =>
  xac .neq (atP c3 11) (atP o1 0) fun r4 =>
  xad r4
   (x3k)
   (xac .add (atP o1 0) (I 1) fun r5 =>
   xaj 51 w3 w5 fun c6 =>
   xac .neq (atP c6 12) r5 fun r7 =>
   xad r7
    (x3k)
    (xac .add r5 (I 1) fun r8 =>
    xaj 51 w3 w5 fun c9 =>
    call Qhb [.one (atP c9 13),.one r8] fun o10 =>
    xac .lss (atP o10 0) (I 0) fun r11 =>
    xad r11
     (x4k)
     (xaj 51 w3 w5 fun c12 =>
     xac .neq (atP c12 14) (atP o10 0) fun r13 =>
     xad r13
      (x4k)
      (xac .add (atP o10 0) (I 1) fun r14 =>
      xaj 51 w3 w5 fun c15 =>
      xac .rem r14 (I 3) fun r16 =>
      xac .eql r16 (I 0) fun r17 =>
      xen .neq (atP c15 15) r17 fun r18 =>
      xad r18
       (x4k)
       (xac .add r14 (I 1) fun r19 =>
       xaj 51 w3 w5 fun c20 =>
       call Qhc [.one (atP c20 16),.one r19] fun o21 =>
       xac .lss (atP o21 0) (I 0) fun r22 =>
       xad r22
        (x5k)
        (xaj 51 w3 w5 fun c23 =>
        xac .neq (atP c23 17) (atP o21 0) fun r24 =>
        xad r24
         (x5k)
         (xac .add (atP o21 0) (I 1) fun r25 =>
         xaj 51 w3 w5 fun c26 =>
         xac .neq (atP c26 18) r25 fun r27 =>
         xad r27
          (x5k)
          (xac .add r25 (I 1) fun r28 =>
          xaj 51 w3 w5 fun c29 =>
          xac .neq (atP c29 19) r28 fun r30 =>
          xad r30
           (x5k)
           (xac .add r28 (I 1) fun r31 =>
           K r31 r31 r28 w3 w4 w5))))))))))
def heldForkS_p2 (K:PV→PV→PV→PV→PV→PV→Prop) (x0k:PV→PV→PV→PV→Prop) (x1k x2k x3k x4k x5k x6k x7k x8k x9k x10k x11k x12k x13k:Prop) (w0 w1 w2 w3 w4 w5:PV):Prop :=
 xaj 51 w3 w5 fun c0 =>
 xac .neq (atP c0 20) w0 fun r1 =>
 xad r1
  (x5k)
  (xac .add w0 (I 1) fun r2 =>
  xaj 51 w3 w5 fun c3 =>
  xac .neq (atP c3 21) r2 fun r4 =>
  xad r4
   (x5k)
   (xac .add r2 (I 1) fun r5 =>
   xaj 51 w3 w5 fun c6 =>
   xac .neq (atP c6 22) r5 fun r7 =>
   xad r7
    (x5k)
    (xac .add r5 (I 1) fun r8 =>
    xaj 51 w3 w5 fun c9 =>
    xac .neq (atP c9 23) r8 fun r10 =>
    xad r10
     (x5k)
     (xac .add r8 (I 1) fun r11 =>
     xaj 51 w3 w5 fun c12 =>
     xac .neq (atP c12 24) r11 fun r13 =>
     xad r13
      (x5k)
      (xac .add r11 (I 1) fun r14 =>
      xaj 51 w3 w5 fun c15 =>
      call Qhb [.one (atP c15 25),.one r14] fun o16 =>
      xac .lss (atP o16 0) (I 0) fun r17 =>
      xad r17
       (x6k)
       (xaj 51 w3 w5 fun c18 =>
       xac .neq (atP c18 26) (atP o16 0) fun r19 =>
       xad r19
        (x6k)
        (xac .add (atP o16 0) (I 1) fun r20 =>
        xaj 51 w3 w5 fun c21 =>
        call Qhb [.one (atP c21 27),.one r20] fun o22 =>
        xac .lss (atP o22 0) (I 0) fun r23 =>
        xad r23
         (x7k)
         (xaj 51 w3 w5 fun c24 =>
         xac .neq (atP c24 28) (atP o22 0) fun r25 =>
         xad r25
          (x7k)
          (xac .add (atP o22 0) (I 1) fun r26 =>
          xaj 51 w3 w5 fun c27 =>
          xac .neq (atP c27 29) r26 fun r28 =>
          xad r28
           (x7k)
           (xac .add r26 (I 1) fun r29 =>
           K r29 r29 r26 w3 w4 w5))))))))))
def heldForkS_p3 (K:PV→PV→PV→PV→PV→PV→Prop) (x0k:PV→PV→PV→PV→Prop) (x1k x2k x3k x4k x5k x6k x7k x8k x9k x10k x11k x12k x13k:Prop) (w0 w1 w2 w3 w4 w5:PV):Prop :=
 xaj 51 w3 w5 fun c0 =>
 call Qhb [.one (atP c0 30),.one w0] fun o1 =>
 xac .lss (atP o1 0) (I 0) fun r2 =>
 xad r2
  (x8k)
  (xaj 51 w3 w5 fun c3 =>
  xac .neq (atP c3 31) (atP o1 0) fun r4 =>
  xad r4
   (x8k)
   (xac .add (atP o1 0) (I 1) fun r5 =>
   xaj 51 w3 w5 fun c6 =>
   xac .rem r5 (I 3) fun r7 =>
   xac .eql r7 (I 0) fun r8 =>
   xen .neq (atP c6 32) r8 fun r9 =>
   xad r9
    (x8k)
    (xac .add r5 (I 1) fun r10 =>
    xaj 51 w3 w5 fun c11 =>
    call Qhc [.one (atP c11 33),.one r10] fun o12 =>
    xac .lss (atP o12 0) (I 0) fun r13 =>
    xad r13
     (x9k)
     (xaj 51 w3 w5 fun c14 =>
     xac .neq (atP c14 34) (atP o12 0) fun r15 =>
     xad r15
      (x9k)
      (xac .add (atP o12 0) (I 1) fun r16 =>
      xaj 51 w3 w5 fun c17 =>
      xac .neq (atP c17 35) r16 fun r18 =>
      xad r18
       (x9k)
       (xac .add r16 (I 1) fun r19 =>
       xaj 51 w3 w5 fun c20 =>
       xac .neq (atP c20 36) r19 fun r21 =>
       xad r21
        (x9k)
        (xac .add r19 (I 1) fun r22 =>
        xaj 51 w3 w5 fun c23 =>
        xac .neq (atP c23 37) r22 fun r24 =>
        xad r24
         (x9k)
         (xac .add r22 (I 1) fun r25 =>
         xaj 51 w3 w5 fun c26 =>
         xac .neq (atP c26 38) r25 fun r27 =>
         xad r27
          (x9k)
          (xac .add r25 (I 1) fun r28 =>
          xaj 51 w3 w5 fun c29 =>
          xac .neq (atP c29 39) r28 fun r30 =>
          xad r30
           (x9k)
           (xac .add r28 (I 1) fun r31 =>
           K r31 r31 r28 w3 w4 w5))))))))))
def heldForkS_p4 (K:PV→PV→PV→PV→PV→PV→Prop) (x0k:PV→PV→PV→PV→Prop) (x1k x2k x3k x4k x5k x6k x7k x8k x9k x10k x11k x12k x13k:Prop) (w0 w1 w2 w3 w4 w5:PV):Prop :=
 xaj 51 w3 w5 fun c0 =>
 xac .neq (atP c0 40) w0 fun r1 =>
 xad r1
  (x9k)
  (xac .add w0 (I 1) fun r2 =>
  xaj 51 w3 w5 fun c3 =>
  xac .neq (atP c3 41) r2 fun r4 =>
  xad r4
   (x9k)
   (xac .add r2 (I 1) fun r5 =>
   xaj 51 w3 w5 fun c6 =>
   call Qhb [.one (atP c6 42),.one r5] fun o7 =>
   xac .lss (atP o7 0) (I 0) fun r8 =>
   xad r8
    (x10k)
    (xaj 51 w3 w5 fun c9 =>
    xac .neq (atP c9 43) (atP o7 0) fun r10 =>
    xad r10
     (x10k)
     (xac .add (atP o7 0) (I 1) fun r11 =>
     xaj 51 w3 w5 fun c12 =>
     call Qhb [.one (atP c12 44),.one r11] fun o13 =>
     xac .lss (atP o13 0) (I 0) fun r14 =>
     xad r14
      (x11k)
      (xaj 51 w3 w5 fun c15 =>
      xac .neq (atP c15 45) (atP o13 0) fun r16 =>
      xad r16
       (x11k)
       (xac .add (atP o13 0) (I 1) fun r17 =>
       xaj 51 w3 w5 fun c18 =>
       xac .neq (atP c18 46) r17 fun r19 =>
       xad r19
        (x11k)
        (xac .add r17 (I 1) fun r20 =>
        xaj 51 w3 w5 fun c21 =>
        call Qhb [.one (atP c21 47),.one r20] fun o22 =>
        xac .lss (atP o22 0) (I 0) fun r23 =>
        xad r23
         (x12k)
         (xaj 51 w3 w5 fun c24 =>
         xac .neq (atP c24 48) (atP o22 0) fun r25 =>
         xad r25
          (x12k)
          (xac .add (atP o22 0) (I 1) fun r26 =>
          xaj 51 w3 w5 fun c27 =>
          xac .rem r26 (I 3) fun r28 =>
          xac .eql r28 (I 0) fun r29 =>
          xen .neq (atP c27 49) r29 fun r30 =>
          xad r30
           (x12k)
           (xac .add r26 (I 1) fun r31 =>
           K r31 r31 r26 w3 w4 w5))))))))))
def heldForkS_p5 (K:PV→PV→PV→PV→PV→Prop) (x0k:PV→PV→PV→PV→Prop) (x1k x2k x3k x4k x5k x6k x7k x8k x9k x10k x11k x12k x13k:Prop) (w0 w1 w2 w3 w4 w5:PV):Prop :=
 xaj 51 w3 w5 fun c0 =>
 call Qhc [.one (atP c0 50),.one w0] fun o1 =>
 xac .lss (atP o1 0) (I 0) fun r2 =>
 xad r2
  (x13k)
  (K (atP o1 0) (atP o1 0) w3 w4 w5)
def heldForkS_z (K:List PV→Prop) (x0k:PV→PV→PV→PV→Prop) (x1k x2k x3k x4k x5k x6k x7k x8k x9k x10k x11k x12k x13k:Prop) (v0 v1 v2 v3:PV) (w0 w1 w2 w3 w4:PV):Prop :=
 xac .add w4 (I 1) fun r0 =>
 K [w2,w1,w3,r0]
def heldForkS_q6 (K:List PV→Prop) (x0k:PV→PV→PV→PV→Prop) (x1k x2k x3k x4k x5k x6k x7k x8k x9k x10k x11k x12k x13k:Prop) (v0 v1 v2 v3:PV) (w0 w1 w2 w3 w4:PV):Prop:=heldForkS_z K x0k x1k x2k x3k x4k x5k x6k x7k x8k x9k x10k x11k x12k x13k v0 v1 v2 v3 w0 w1 w2 w3 w4
def heldForkS_q5 (K:List PV→Prop) (x0k:PV→PV→PV→PV→Prop) (x1k x2k x3k x4k x5k x6k x7k x8k x9k x10k x11k x12k x13k:Prop) (v0 v1 v2 v3:PV) (w0 w1 w2 w3 w4 w5:PV):Prop:=heldForkS_p5 (fun w0 w1 w2 w3 w4=>heldForkS_q6 K x0k x1k x2k x3k x4k x5k x6k x7k x8k x9k x10k x11k x12k x13k v0 v1 v2 v3 w0 w1 w2 w3 w4) x0k x1k x2k x3k x4k x5k x6k x7k x8k x9k x10k x11k x12k x13k w0 w1 w2 w3 w4 w5
def heldForkS_q4 (K:List PV→Prop) (x0k:PV→PV→PV→PV→Prop) (x1k x2k x3k x4k x5k x6k x7k x8k x9k x10k x11k x12k x13k:Prop) (v0 v1 v2 v3:PV) (w0 w1 w2 w3 w4 w5:PV):Prop:=heldForkS_p4 (fun w0 w1 w2 w3 w4 w5=>heldForkS_q5 K x0k x1k x2k x3k x4k x5k x6k x7k x8k x9k x10k x11k x12k x13k v0 v1 v2 v3 w0 w1 w2 w3 w4 w5) x0k x1k x2k x3k x4k x5k x6k x7k x8k x9k x10k x11k x12k x13k w0 w1 w2 w3 w4 w5
def heldForkS_q3 (K:List PV→Prop) (x0k:PV→PV→PV→PV→Prop) (x1k x2k x3k x4k x5k x6k x7k x8k x9k x10k x11k x12k x13k:Prop) (v0 v1 v2 v3:PV) (w0 w1 w2 w3 w4 w5:PV):Prop:=heldForkS_p3 (fun w0 w1 w2 w3 w4 w5=>heldForkS_q4 K x0k x1k x2k x3k x4k x5k x6k x7k x8k x9k x10k x11k x12k x13k v0 v1 v2 v3 w0 w1 w2 w3 w4 w5) x0k x1k x2k x3k x4k x5k x6k x7k x8k x9k x10k x11k x12k x13k w0 w1 w2 w3 w4 w5
def heldForkS_q2 (K:List PV→Prop) (x0k:PV→PV→PV→PV→Prop) (x1k x2k x3k x4k x5k x6k x7k x8k x9k x10k x11k x12k x13k:Prop) (v0 v1 v2 v3:PV) (w0 w1 w2 w3 w4 w5:PV):Prop:=heldForkS_p2 (fun w0 w1 w2 w3 w4 w5=>heldForkS_q3 K x0k x1k x2k x3k x4k x5k x6k x7k x8k x9k x10k x11k x12k x13k v0 v1 v2 v3 w0 w1 w2 w3 w4 w5) x0k x1k x2k x3k x4k x5k x6k x7k x8k x9k x10k x11k x12k x13k w0 w1 w2 w3 w4 w5
def heldForkS_q1 (K:List PV→Prop) (x0k:PV→PV→PV→PV→Prop) (x1k x2k x3k x4k x5k x6k x7k x8k x9k x10k x11k x12k x13k:Prop) (v0 v1 v2 v3:PV) (w0 w1 w2 w3 w4 w5:PV):Prop:=heldForkS_p1 (fun w0 w1 w2 w3 w4 w5=>heldForkS_q2 K x0k x1k x2k x3k x4k x5k x6k x7k x8k x9k x10k x11k x12k x13k v0 v1 v2 v3 w0 w1 w2 w3 w4 w5) x0k x1k x2k x3k x4k x5k x6k x7k x8k x9k x10k x11k x12k x13k w0 w1 w2 w3 w4 w5
def heldForkS_q0 (K:List PV→Prop) (x0k:PV→PV→PV→PV→Prop) (x1k x2k x3k x4k x5k x6k x7k x8k x9k x10k x11k x12k x13k:Prop) (v0 v1 v2 v3:PV) (w0 w1 w2 w3 w4:PV):Prop:=heldForkS_p0 (fun w0 w1 w2 w3 w4 w5=>heldForkS_q1 K x0k x1k x2k x3k x4k x5k x6k x7k x8k x9k x10k x11k x12k x13k v0 v1 v2 v3 w0 w1 w2 w3 w4 w5) x0k x1k x2k x3k x4k x5k x6k x7k x8k x9k x10k x11k x12k x13k w0 w1 w2 w3 w4
def Qhg_r0 (v:List PV) (K:List PV→Prop) (x0k:PV→PV→PV→PV→Prop) (x1k x2k x3k x4k x5k x6k x7k x8k x9k x10k x11k x12k x13k:Prop):Prop :=
 un 4 (fun v0 v1 v2 v3=>heldForkS_a (fun w0 w1 w2 w3 w4=>heldForkS_q0 K x0k x1k x2k x3k x4k x5k x6k x7k x8k x9k x10k x11k x12k x13k v0 v1 v2 v3 w0 w1 w2 w3 w4) x0k x1k x2k x3k x4k x5k x6k x7k x8k x9k x10k x11k x12k x13k v0 v1 v2 v3) v
def Qhg:GM
 | [.one a0,.one a1],k =>
  lp (fun L w=>Qhg_r0 w L
   (fun q1 q2 q3 q4=>rt [.sc] [q2] k)
   (rt [.sc] [(I (-1))] k)
   (rt [.sc] [(I (-1))] k)
   (rt [.sc] [(I (-1))] k)
   (rt [.sc] [(I (-1))] k)
   (rt [.sc] [(I (-1))] k)
   (rt [.sc] [(I (-1))] k)
   (rt [.sc] [(I (-1))] k)
   (rt [.sc] [(I (-1))] k)
   (rt [.sc] [(I (-1))] k)
   (rt [.sc] [(I (-1))] k)
   (rt [.sc] [(I (-1))] k)
   (rt [.sc] [(I (-1))] k)
   (rt [.sc] [(I (-1))] k)) [a0,a1,(I 0),(I 0)]
 | _,_=>False
def Qhg_l:List LE:=[⟨none,0,⟨[(0,.one zB),(1,.one zB),(4,.one zB),(5,.one zB)],[],[],0,595,[]⟩,fun K k v=>Qhg_r0 v K (fun x0 x1 x2 x3=>k (.exit 0) (heldForkS_x0 x0 x1 x2 x3)) (k .ret heldForkS_x1) (k .ret heldForkS_x2) (k .ret heldForkS_x3) (k .ret heldForkS_x4) (k .ret heldForkS_x5) (k .ret heldForkS_x6) (k .ret heldForkS_x7) (k .ret heldForkS_x8) (k .ret heldForkS_x9) (k .ret heldForkS_x10) (k .ret heldForkS_x11) (k .ret heldForkS_x12) (k .ret heldForkS_x13)⟩]
noncomputable abbrev heldForkS_S (S2:Sums2):=sxL (orac TT.wind [⟨[102],Qhb⟩,⟨[231],Qhc⟩] S2) TT.wind (kk [0,1,4,5]) (S2 none)
noncomputable abbrev heldForkS_T:=xnJ (kts (kk [0,1,4,5])) (xpI f184)
noncomputable abbrev heldForkS_c0:Code:=inQ (hdQ (tlQ (xfa f184 0)))
noncomputable abbrev heldForkS_c1:Code:=xj6 20 heldForkS_c0
noncomputable abbrev heldForkS_c2:Code:=xj6 20 heldForkS_c1
noncomputable abbrev heldForkS_c3:Code:=xj6 20 heldForkS_c2
noncomputable abbrev heldForkS_c4:Code:=xj6 20 heldForkS_c3
noncomputable abbrev heldForkS_c5:Code:=xj6 20 heldForkS_c4
theorem heldForkS_a_e (S2:Sums2) (kn:Fr→Prop) (k:Out→Fr→Prop) (v0 v1 v2 v3:PV):heldForkS_a (fun w0 w1 w2 w3 w4=>kn (fill heldForkS_F0 [w0,w1,w2,w3,w4])) (fun x0 x1 x2 x3=>k (.exit 0) (heldForkS_x0 x0 x1 x2 x3)) (k .ret heldForkS_x1) (k .ret heldForkS_x2) (k .ret heldForkS_x3) (k .ret heldForkS_x4) (k .ret heldForkS_x5) (k .ret heldForkS_x6) (k .ret heldForkS_x7) (k .ret heldForkS_x8) (k .ret heldForkS_x9) (k .ret heldForkS_x10) (k .ret heldForkS_x11) (k .ret heldForkS_x12) (k .ret heldForkS_x13) v0 v1 v2 v3=heldForkS_S S2 (.seq (hdQ (xfa f184 0)) .skip) 1 (fill heldForkS_H [v0,v1,v2,v3]) (heldForkS_T kn (xrh (kts (kk [0,1,4,5])) (xpI f184) k) k):=by kernel_rfl
theorem heldForkS_p0_e (S2:Sums2) (kn:Fr→Prop) (ke:Nat→Fr→Prop) (k:Out→Fr→Prop) (w0 w1 w2 w3 w4:PV):heldForkS_p0 (fun w0 w1 w2 w3 w4 w5=>kn (fill heldForkS_F1 [w0,w1,w2,w3,w4,w5])) (fun x0 x1 x2 x3=>k (.exit 0) (heldForkS_x0 x0 x1 x2 x3)) (k .ret heldForkS_x1) (k .ret heldForkS_x2) (k .ret heldForkS_x3) (k .ret heldForkS_x4) (k .ret heldForkS_x5) (k .ret heldForkS_x6) (k .ret heldForkS_x7) (k .ret heldForkS_x8) (k .ret heldForkS_x9) (k .ret heldForkS_x10) (k .ret heldForkS_x11) (k .ret heldForkS_x12) (k .ret heldForkS_x13) w0 w1 w2 w3 w4=heldForkS_S S2 (xga 20 heldForkS_c0) 1 (fill heldForkS_F0 [w0,w1,w2,w3,w4]) (heldForkS_T kn ke k):=by kernel_rfl
theorem heldForkS_p1_e (S2:Sums2) (kn:Fr→Prop) (ke:Nat→Fr→Prop) (k:Out→Fr→Prop) (w0 w1 w2 w3 w4 w5:PV):heldForkS_p1 (fun w0 w1 w2 w3 w4 w5=>kn (fill heldForkS_F2 [w0,w1,w2,w3,w4,w5])) (fun x0 x1 x2 x3=>k (.exit 0) (heldForkS_x0 x0 x1 x2 x3)) (k .ret heldForkS_x1) (k .ret heldForkS_x2) (k .ret heldForkS_x3) (k .ret heldForkS_x4) (k .ret heldForkS_x5) (k .ret heldForkS_x6) (k .ret heldForkS_x7) (k .ret heldForkS_x8) (k .ret heldForkS_x9) (k .ret heldForkS_x10) (k .ret heldForkS_x11) (k .ret heldForkS_x12) (k .ret heldForkS_x13) w0 w1 w2 w3 w4 w5=heldForkS_S S2 (xga 20 heldForkS_c1) 1 (fill heldForkS_F1 [w0,w1,w2,w3,w4,w5]) (heldForkS_T kn ke k):=by kernel_rfl
theorem heldForkS_p2_e (S2:Sums2) (kn:Fr→Prop) (ke:Nat→Fr→Prop) (k:Out→Fr→Prop) (w0 w1 w2 w3 w4 w5:PV):heldForkS_p2 (fun w0 w1 w2 w3 w4 w5=>kn (fill heldForkS_F3 [w0,w1,w2,w3,w4,w5])) (fun x0 x1 x2 x3=>k (.exit 0) (heldForkS_x0 x0 x1 x2 x3)) (k .ret heldForkS_x1) (k .ret heldForkS_x2) (k .ret heldForkS_x3) (k .ret heldForkS_x4) (k .ret heldForkS_x5) (k .ret heldForkS_x6) (k .ret heldForkS_x7) (k .ret heldForkS_x8) (k .ret heldForkS_x9) (k .ret heldForkS_x10) (k .ret heldForkS_x11) (k .ret heldForkS_x12) (k .ret heldForkS_x13) w0 w1 w2 w3 w4 w5=heldForkS_S S2 (xga 20 heldForkS_c2) 1 (fill heldForkS_F2 [w0,w1,w2,w3,w4,w5]) (heldForkS_T kn ke k):=by kernel_rfl
theorem heldForkS_p3_e (S2:Sums2) (kn:Fr→Prop) (ke:Nat→Fr→Prop) (k:Out→Fr→Prop) (w0 w1 w2 w3 w4 w5:PV):heldForkS_p3 (fun w0 w1 w2 w3 w4 w5=>kn (fill heldForkS_F4 [w0,w1,w2,w3,w4,w5])) (fun x0 x1 x2 x3=>k (.exit 0) (heldForkS_x0 x0 x1 x2 x3)) (k .ret heldForkS_x1) (k .ret heldForkS_x2) (k .ret heldForkS_x3) (k .ret heldForkS_x4) (k .ret heldForkS_x5) (k .ret heldForkS_x6) (k .ret heldForkS_x7) (k .ret heldForkS_x8) (k .ret heldForkS_x9) (k .ret heldForkS_x10) (k .ret heldForkS_x11) (k .ret heldForkS_x12) (k .ret heldForkS_x13) w0 w1 w2 w3 w4 w5=heldForkS_S S2 (xga 20 heldForkS_c3) 1 (fill heldForkS_F3 [w0,w1,w2,w3,w4,w5]) (heldForkS_T kn ke k):=by kernel_rfl
theorem heldForkS_p4_e (S2:Sums2) (kn:Fr→Prop) (ke:Nat→Fr→Prop) (k:Out→Fr→Prop) (w0 w1 w2 w3 w4 w5:PV):heldForkS_p4 (fun w0 w1 w2 w3 w4 w5=>kn (fill heldForkS_F5 [w0,w1,w2,w3,w4,w5])) (fun x0 x1 x2 x3=>k (.exit 0) (heldForkS_x0 x0 x1 x2 x3)) (k .ret heldForkS_x1) (k .ret heldForkS_x2) (k .ret heldForkS_x3) (k .ret heldForkS_x4) (k .ret heldForkS_x5) (k .ret heldForkS_x6) (k .ret heldForkS_x7) (k .ret heldForkS_x8) (k .ret heldForkS_x9) (k .ret heldForkS_x10) (k .ret heldForkS_x11) (k .ret heldForkS_x12) (k .ret heldForkS_x13) w0 w1 w2 w3 w4 w5=heldForkS_S S2 (xga 20 heldForkS_c4) 1 (fill heldForkS_F4 [w0,w1,w2,w3,w4,w5]) (heldForkS_T kn ke k):=by kernel_rfl
theorem heldForkS_p5_e (S2:Sums2) (kn:Fr→Prop) (ke:Nat→Fr→Prop) (k:Out→Fr→Prop) (w0 w1 w2 w3 w4 w5:PV):heldForkS_p5 (fun w0 w1 w2 w3 w4=>kn (fill heldForkS_F6 [w0,w1,w2,w3,w4])) (fun x0 x1 x2 x3=>k (.exit 0) (heldForkS_x0 x0 x1 x2 x3)) (k .ret heldForkS_x1) (k .ret heldForkS_x2) (k .ret heldForkS_x3) (k .ret heldForkS_x4) (k .ret heldForkS_x5) (k .ret heldForkS_x6) (k .ret heldForkS_x7) (k .ret heldForkS_x8) (k .ret heldForkS_x9) (k .ret heldForkS_x10) (k .ret heldForkS_x11) (k .ret heldForkS_x12) (k .ret heldForkS_x13) w0 w1 w2 w3 w4 w5=heldForkS_S S2 heldForkS_c5 1 (fill heldForkS_F5 [w0,w1,w2,w3,w4,w5]) (heldForkS_T (fun F=>xiw TT.wind.win (kk [0,1,4,5]) F kn) ke k):=by kernel_rfl
abbrev heldForkS_R (S2:Sums2) (K:List PV→Prop) (k:Out→Fr→Prop) (v0 v1 v2 v3:PV) (F:Fr):Prop:=heldForkS_S S2 (tlQ (tlQ (xfa f184 0))) 1 F (heldForkS_T (xuL (fill heldForkS_H [v0,v1,v2,v3]) heldForkS_H K) (xrh (kts (kk [0,1,4,5])) (xpI f184) k) k)
theorem heldForkS_q6_e (S2:Sums2) (K:List PV→Prop) (k:Out→Fr→Prop) (v0 v1 v2 v3:PV) (w0 w1 w2 w3 w4:PV):heldForkS_q6 K (fun x0 x1 x2 x3=>k (.exit 0) (heldForkS_x0 x0 x1 x2 x3)) (k .ret heldForkS_x1) (k .ret heldForkS_x2) (k .ret heldForkS_x3) (k .ret heldForkS_x4) (k .ret heldForkS_x5) (k .ret heldForkS_x6) (k .ret heldForkS_x7) (k .ret heldForkS_x8) (k .ret heldForkS_x9) (k .ret heldForkS_x10) (k .ret heldForkS_x11) (k .ret heldForkS_x12) (k .ret heldForkS_x13) v0 v1 v2 v3 w0 w1 w2 w3 w4=heldForkS_R S2 K k v0 v1 v2 v3 (fill heldForkS_F6 [w0,w1,w2,w3,w4]):=by kernel_rfl
abbrev heldForkS_B (S2:Sums2) (K:List PV→Prop) (k:Out→Fr→Prop) (v0 v1 v2 v3:PV):Fr→Prop:=fun F=>xiw TT.wind.win (kk [0,1,4,5]) F fun F=>heldForkS_R S2 K k v0 v1 v2 v3 F
theorem heldForkS_q5_e (S2:Sums2) (K:List PV→Prop) (ke:Nat→Fr→Prop) (k:Out→Fr→Prop) (v0 v1 v2 v3:PV) (w0 w1 w2 w3 w4 w5:PV):heldForkS_q5 K (fun x0 x1 x2 x3=>k (.exit 0) (heldForkS_x0 x0 x1 x2 x3)) (k .ret heldForkS_x1) (k .ret heldForkS_x2) (k .ret heldForkS_x3) (k .ret heldForkS_x4) (k .ret heldForkS_x5) (k .ret heldForkS_x6) (k .ret heldForkS_x7) (k .ret heldForkS_x8) (k .ret heldForkS_x9) (k .ret heldForkS_x10) (k .ret heldForkS_x11) (k .ret heldForkS_x12) (k .ret heldForkS_x13) v0 v1 v2 v3 w0 w1 w2 w3 w4 w5=heldForkS_S S2 heldForkS_c5 1 (fill heldForkS_F5 [w0,w1,w2,w3,w4,w5]) (heldForkS_T (heldForkS_B S2 K k v0 v1 v2 v3) ke k) :=
 (congrArg (fun q=>heldForkS_p5 q (fun x0 x1 x2 x3=>k (.exit 0) (heldForkS_x0 x0 x1 x2 x3)) (k .ret heldForkS_x1) (k .ret heldForkS_x2) (k .ret heldForkS_x3) (k .ret heldForkS_x4) (k .ret heldForkS_x5) (k .ret heldForkS_x6) (k .ret heldForkS_x7) (k .ret heldForkS_x8) (k .ret heldForkS_x9) (k .ret heldForkS_x10) (k .ret heldForkS_x11) (k .ret heldForkS_x12) (k .ret heldForkS_x13) w0 w1 w2 w3 w4 w5) (funext fun w0=>funext fun w1=>funext fun w2=>funext fun w3=>funext fun w4=>heldForkS_q6_e S2 K k v0 v1 v2 v3 w0 w1 w2 w3 w4)).trans ((heldForkS_p5_e S2 (fun F=>heldForkS_R S2 K k v0 v1 v2 v3 F) ke k w0 w1 w2 w3 w4 w5))
theorem heldForkS_q4_e (S2:Sums2) (K:List PV→Prop) (ke:Nat→Fr→Prop) (k:Out→Fr→Prop) (v0 v1 v2 v3:PV) (w0 w1 w2 w3 w4 w5:PV):heldForkS_q4 K (fun x0 x1 x2 x3=>k (.exit 0) (heldForkS_x0 x0 x1 x2 x3)) (k .ret heldForkS_x1) (k .ret heldForkS_x2) (k .ret heldForkS_x3) (k .ret heldForkS_x4) (k .ret heldForkS_x5) (k .ret heldForkS_x6) (k .ret heldForkS_x7) (k .ret heldForkS_x8) (k .ret heldForkS_x9) (k .ret heldForkS_x10) (k .ret heldForkS_x11) (k .ret heldForkS_x12) (k .ret heldForkS_x13) v0 v1 v2 v3 w0 w1 w2 w3 w4 w5=heldForkS_S S2 heldForkS_c4 1 (fill heldForkS_F4 [w0,w1,w2,w3,w4,w5]) (heldForkS_T (heldForkS_B S2 K k v0 v1 v2 v3) ke k) :=
 (congrArg (fun q=>heldForkS_p4 q (fun x0 x1 x2 x3=>k (.exit 0) (heldForkS_x0 x0 x1 x2 x3)) (k .ret heldForkS_x1) (k .ret heldForkS_x2) (k .ret heldForkS_x3) (k .ret heldForkS_x4) (k .ret heldForkS_x5) (k .ret heldForkS_x6) (k .ret heldForkS_x7) (k .ret heldForkS_x8) (k .ret heldForkS_x9) (k .ret heldForkS_x10) (k .ret heldForkS_x11) (k .ret heldForkS_x12) (k .ret heldForkS_x13) w0 w1 w2 w3 w4 w5) (funext fun w0=>funext fun w1=>funext fun w2=>funext fun w3=>funext fun w4=>funext fun w5=>heldForkS_q5_e S2 K ke k v0 v1 v2 v3 w0 w1 w2 w3 w4 w5)).trans ((heldForkS_p4_e S2 (fun F=>heldForkS_S S2 heldForkS_c5 1 F (heldForkS_T (heldForkS_B S2 K k v0 v1 v2 v3) ke k)) ke k w0 w1 w2 w3 w4 w5).trans (xew 20 heldForkS_c4 (by kernel_rfl)))
theorem heldForkS_q3_e (S2:Sums2) (K:List PV→Prop) (ke:Nat→Fr→Prop) (k:Out→Fr→Prop) (v0 v1 v2 v3:PV) (w0 w1 w2 w3 w4 w5:PV):heldForkS_q3 K (fun x0 x1 x2 x3=>k (.exit 0) (heldForkS_x0 x0 x1 x2 x3)) (k .ret heldForkS_x1) (k .ret heldForkS_x2) (k .ret heldForkS_x3) (k .ret heldForkS_x4) (k .ret heldForkS_x5) (k .ret heldForkS_x6) (k .ret heldForkS_x7) (k .ret heldForkS_x8) (k .ret heldForkS_x9) (k .ret heldForkS_x10) (k .ret heldForkS_x11) (k .ret heldForkS_x12) (k .ret heldForkS_x13) v0 v1 v2 v3 w0 w1 w2 w3 w4 w5=heldForkS_S S2 heldForkS_c3 1 (fill heldForkS_F3 [w0,w1,w2,w3,w4,w5]) (heldForkS_T (heldForkS_B S2 K k v0 v1 v2 v3) ke k) :=
 (congrArg (fun q=>heldForkS_p3 q (fun x0 x1 x2 x3=>k (.exit 0) (heldForkS_x0 x0 x1 x2 x3)) (k .ret heldForkS_x1) (k .ret heldForkS_x2) (k .ret heldForkS_x3) (k .ret heldForkS_x4) (k .ret heldForkS_x5) (k .ret heldForkS_x6) (k .ret heldForkS_x7) (k .ret heldForkS_x8) (k .ret heldForkS_x9) (k .ret heldForkS_x10) (k .ret heldForkS_x11) (k .ret heldForkS_x12) (k .ret heldForkS_x13) w0 w1 w2 w3 w4 w5) (funext fun w0=>funext fun w1=>funext fun w2=>funext fun w3=>funext fun w4=>funext fun w5=>heldForkS_q4_e S2 K ke k v0 v1 v2 v3 w0 w1 w2 w3 w4 w5)).trans ((heldForkS_p3_e S2 (fun F=>heldForkS_S S2 heldForkS_c4 1 F (heldForkS_T (heldForkS_B S2 K k v0 v1 v2 v3) ke k)) ke k w0 w1 w2 w3 w4 w5).trans (xew 20 heldForkS_c3 (by kernel_rfl)))
theorem heldForkS_q2_e (S2:Sums2) (K:List PV→Prop) (ke:Nat→Fr→Prop) (k:Out→Fr→Prop) (v0 v1 v2 v3:PV) (w0 w1 w2 w3 w4 w5:PV):heldForkS_q2 K (fun x0 x1 x2 x3=>k (.exit 0) (heldForkS_x0 x0 x1 x2 x3)) (k .ret heldForkS_x1) (k .ret heldForkS_x2) (k .ret heldForkS_x3) (k .ret heldForkS_x4) (k .ret heldForkS_x5) (k .ret heldForkS_x6) (k .ret heldForkS_x7) (k .ret heldForkS_x8) (k .ret heldForkS_x9) (k .ret heldForkS_x10) (k .ret heldForkS_x11) (k .ret heldForkS_x12) (k .ret heldForkS_x13) v0 v1 v2 v3 w0 w1 w2 w3 w4 w5=heldForkS_S S2 heldForkS_c2 1 (fill heldForkS_F2 [w0,w1,w2,w3,w4,w5]) (heldForkS_T (heldForkS_B S2 K k v0 v1 v2 v3) ke k) :=
 (congrArg (fun q=>heldForkS_p2 q (fun x0 x1 x2 x3=>k (.exit 0) (heldForkS_x0 x0 x1 x2 x3)) (k .ret heldForkS_x1) (k .ret heldForkS_x2) (k .ret heldForkS_x3) (k .ret heldForkS_x4) (k .ret heldForkS_x5) (k .ret heldForkS_x6) (k .ret heldForkS_x7) (k .ret heldForkS_x8) (k .ret heldForkS_x9) (k .ret heldForkS_x10) (k .ret heldForkS_x11) (k .ret heldForkS_x12) (k .ret heldForkS_x13) w0 w1 w2 w3 w4 w5) (funext fun w0=>funext fun w1=>funext fun w2=>funext fun w3=>funext fun w4=>funext fun w5=>heldForkS_q3_e S2 K ke k v0 v1 v2 v3 w0 w1 w2 w3 w4 w5)).trans ((heldForkS_p2_e S2 (fun F=>heldForkS_S S2 heldForkS_c3 1 F (heldForkS_T (heldForkS_B S2 K k v0 v1 v2 v3) ke k)) ke k w0 w1 w2 w3 w4 w5).trans (xew 20 heldForkS_c2 (by kernel_rfl)))
theorem heldForkS_q1_e (S2:Sums2) (K:List PV→Prop) (ke:Nat→Fr→Prop) (k:Out→Fr→Prop) (v0 v1 v2 v3:PV) (w0 w1 w2 w3 w4 w5:PV):heldForkS_q1 K (fun x0 x1 x2 x3=>k (.exit 0) (heldForkS_x0 x0 x1 x2 x3)) (k .ret heldForkS_x1) (k .ret heldForkS_x2) (k .ret heldForkS_x3) (k .ret heldForkS_x4) (k .ret heldForkS_x5) (k .ret heldForkS_x6) (k .ret heldForkS_x7) (k .ret heldForkS_x8) (k .ret heldForkS_x9) (k .ret heldForkS_x10) (k .ret heldForkS_x11) (k .ret heldForkS_x12) (k .ret heldForkS_x13) v0 v1 v2 v3 w0 w1 w2 w3 w4 w5=heldForkS_S S2 heldForkS_c1 1 (fill heldForkS_F1 [w0,w1,w2,w3,w4,w5]) (heldForkS_T (heldForkS_B S2 K k v0 v1 v2 v3) ke k) :=
 (congrArg (fun q=>heldForkS_p1 q (fun x0 x1 x2 x3=>k (.exit 0) (heldForkS_x0 x0 x1 x2 x3)) (k .ret heldForkS_x1) (k .ret heldForkS_x2) (k .ret heldForkS_x3) (k .ret heldForkS_x4) (k .ret heldForkS_x5) (k .ret heldForkS_x6) (k .ret heldForkS_x7) (k .ret heldForkS_x8) (k .ret heldForkS_x9) (k .ret heldForkS_x10) (k .ret heldForkS_x11) (k .ret heldForkS_x12) (k .ret heldForkS_x13) w0 w1 w2 w3 w4 w5) (funext fun w0=>funext fun w1=>funext fun w2=>funext fun w3=>funext fun w4=>funext fun w5=>heldForkS_q2_e S2 K ke k v0 v1 v2 v3 w0 w1 w2 w3 w4 w5)).trans ((heldForkS_p1_e S2 (fun F=>heldForkS_S S2 heldForkS_c2 1 F (heldForkS_T (heldForkS_B S2 K k v0 v1 v2 v3) ke k)) ke k w0 w1 w2 w3 w4 w5).trans (xew 20 heldForkS_c1 (by kernel_rfl)))
theorem heldForkS_q0_e (S2:Sums2) (K:List PV→Prop) (ke:Nat→Fr→Prop) (k:Out→Fr→Prop) (v0 v1 v2 v3:PV) (w0 w1 w2 w3 w4:PV):heldForkS_q0 K (fun x0 x1 x2 x3=>k (.exit 0) (heldForkS_x0 x0 x1 x2 x3)) (k .ret heldForkS_x1) (k .ret heldForkS_x2) (k .ret heldForkS_x3) (k .ret heldForkS_x4) (k .ret heldForkS_x5) (k .ret heldForkS_x6) (k .ret heldForkS_x7) (k .ret heldForkS_x8) (k .ret heldForkS_x9) (k .ret heldForkS_x10) (k .ret heldForkS_x11) (k .ret heldForkS_x12) (k .ret heldForkS_x13) v0 v1 v2 v3 w0 w1 w2 w3 w4=heldForkS_S S2 heldForkS_c0 1 (fill heldForkS_F0 [w0,w1,w2,w3,w4]) (heldForkS_T (heldForkS_B S2 K k v0 v1 v2 v3) ke k) :=
 (congrArg (fun q=>heldForkS_p0 q (fun x0 x1 x2 x3=>k (.exit 0) (heldForkS_x0 x0 x1 x2 x3)) (k .ret heldForkS_x1) (k .ret heldForkS_x2) (k .ret heldForkS_x3) (k .ret heldForkS_x4) (k .ret heldForkS_x5) (k .ret heldForkS_x6) (k .ret heldForkS_x7) (k .ret heldForkS_x8) (k .ret heldForkS_x9) (k .ret heldForkS_x10) (k .ret heldForkS_x11) (k .ret heldForkS_x12) (k .ret heldForkS_x13) w0 w1 w2 w3 w4) (funext fun w0=>funext fun w1=>funext fun w2=>funext fun w3=>funext fun w4=>funext fun w5=>heldForkS_q1_e S2 K ke k v0 v1 v2 v3 w0 w1 w2 w3 w4 w5)).trans ((heldForkS_p0_e S2 (fun F=>heldForkS_S S2 heldForkS_c1 1 F (heldForkS_T (heldForkS_B S2 K k v0 v1 v2 v3) ke k)) ke k w0 w1 w2 w3 w4).trans (xew 20 heldForkS_c0 (by kernel_rfl)))
theorem heldForkS_e (S2:Sums2) (K:List PV→Prop) (k:Out→Fr→Prop) (v0 v1 v2 v3:PV):heldForkS_a (fun w0 w1 w2 w3 w4=>heldForkS_q0 K (fun x0 x1 x2 x3=>k (.exit 0) (heldForkS_x0 x0 x1 x2 x3)) (k .ret heldForkS_x1) (k .ret heldForkS_x2) (k .ret heldForkS_x3) (k .ret heldForkS_x4) (k .ret heldForkS_x5) (k .ret heldForkS_x6) (k .ret heldForkS_x7) (k .ret heldForkS_x8) (k .ret heldForkS_x9) (k .ret heldForkS_x10) (k .ret heldForkS_x11) (k .ret heldForkS_x12) (k .ret heldForkS_x13) v0 v1 v2 v3 w0 w1 w2 w3 w4) (fun x0 x1 x2 x3=>k (.exit 0) (heldForkS_x0 x0 x1 x2 x3)) (k .ret heldForkS_x1) (k .ret heldForkS_x2) (k .ret heldForkS_x3) (k .ret heldForkS_x4) (k .ret heldForkS_x5) (k .ret heldForkS_x6) (k .ret heldForkS_x7) (k .ret heldForkS_x8) (k .ret heldForkS_x9) (k .ret heldForkS_x10) (k .ret heldForkS_x11) (k .ret heldForkS_x12) (k .ret heldForkS_x13) v0 v1 v2 v3=xhB (fun F k=>sxL (orac TT.wind [⟨[102],Qhb⟩,⟨[231],Qhc⟩] S2) TT.wind (kk [0,1,4,5]) (S2 none) (xfa f184 0) 1 F k) (fun o F=>k o (xjy (kts (kk [0,1,4,5])) (xpI f184) o F)) (fun F=>chk heldForkS_H F K) (fill heldForkS_H [v0,v1,v2,v3]):=by
 obtain ⟨ke,h⟩:=xoh (C:=(orac TT.wind [⟨[102],Qhb⟩,⟨[231],Qhc⟩] S2)) (T:=TT.wind) (keep:=(kk [0,1,4,5])) (S:=S2 none) (ks:=kts (kk [0,1,4,5])) (rs:=xpI f184) (kn:=xuL (fill heldForkS_H [v0,v1,v2,v3]) heldForkS_H K) (k:=k) (i:=1) (b:=1) (F:=fill heldForkS_H [v0,v1,v2,v3]) (xfa f184 0) (by kernel_rfl) (by kernel_rfl) (by kernel_rfl)
 rw [xp2,←h]
 exact (congrArg (fun q=>heldForkS_a q (fun x0 x1 x2 x3=>k (.exit 0) (heldForkS_x0 x0 x1 x2 x3)) (k .ret heldForkS_x1) (k .ret heldForkS_x2) (k .ret heldForkS_x3) (k .ret heldForkS_x4) (k .ret heldForkS_x5) (k .ret heldForkS_x6) (k .ret heldForkS_x7) (k .ret heldForkS_x8) (k .ret heldForkS_x9) (k .ret heldForkS_x10) (k .ret heldForkS_x11) (k .ret heldForkS_x12) (k .ret heldForkS_x13) v0 v1 v2 v3) (funext fun w0=>funext fun w1=>funext fun w2=>funext fun w3=>funext fun w4=>heldForkS_q0_e S2 K ke k v0 v1 v2 v3 w0 w1 w2 w3 w4)).trans (heldForkS_a_e S2 (fun F=>heldForkS_S S2 heldForkS_c0 1 F (heldForkS_T (heldForkS_B S2 K k v0 v1 v2 v3) ke k)) k v0 v1 v2 v3)
theorem Qhg_s:xaC [⟨[102],Qhb⟩,⟨[231],Qhc⟩] TT.wind (kk [0,1,4,5]) Qhg_l f184 Qhg_l:=⟨fun v K k h=>by
 apply xab h;exact fun v0 v1 v2 v3 h=>(heldForkS_e _ K k v0 v1 v2 v3).mp h
 ,trivial⟩
theorem Qhg_w:EO ⟨[184],Qhg⟩:=oW (ec Qhb_w (ec Qhc_w en)) (keep:=(kk [0,1,4,5])) (l:=Qhg_l) func184 Qhg_s fun av k h=>by
 unfold Qhg at h;split at h
 ·exact km h
 ·exact h.elim
def Qhh:GM
 | [.agg u0,.one a2],k=>un 2 (fun a0 a1 =>
  call Qhf [.one a0,.one a2] fun o0 =>
  xac .lss (atP o0 0) (I 0) fun r1 =>
  xad r1
   (rt [.sc] [(I (-1))] k)
   (call Qhg [.one a1,.one (atP o0 0)] fun o2 =>
   xac .lss (atP o2 0) (I 0) fun r3 =>
   xad r3
    (rt [.sc] [(I (-1))] k)
    (rt [.sc] [(atP o2 0)] k))) u0
 | _,_=>False
theorem Qhh_w:EO ⟨[100],Qhh⟩:=oFz (ec Qhf_w (ec Qhg_w en)) func100 fun av k h=>by
 unfold Qhh at h;split at h
 ·apply xab h;clear h;intro a0 a1 h;exact km h
 ·exact h.elim
def Qhi_r0 (v:List PV) (K:List PV→Prop) (x0k:PV→Prop) (x1k:Cur 5):Prop :=
 un 5 (fun v0 v1 v2 v3 v4 =>
  xaH v3 fun r0 =>
  xac .lss v2 r0 fun r1 =>
  xad r1
   (xaj 2 v3 v2 fun c2 =>
   call Qdg [.agg [(atP c2 0),(atP c2 1)]] fun o3 =>
   xac .eql (atP o3 0) v0 fun r4 =>
   xad r4
    (xac .geq v0 (I 0) fun r5 =>
    xad r5
     (x0k v2)
     (xac .add v2 (I 1) fun r6 =>
     K [v0,v1,r6,v3,v4]))
    (xac .add v2 (I 1) fun r7 =>
    K [v0,v1,r7,v3,v4]))
   (x1k v0 v1 v2 v3 v4)) v
def Qhi:GM
 | [.agg u0,.one a2],k=>un 2 (fun a0 a1 =>
  lp (fun L w=>Qhi_r0 w L
   (fun q8=>rt [.sc] [q8] k)
   (fun q9 q10 q11 q12 q13=>rt [.sc] [(I (-1))] k)) [a2,(I 0),(I 0),a0,a1]) u0
 | _,_=>False
def Qhi_l:List LE:=[⟨none,0,⟨[(1,.one zB),(2,.one (.ptr 0 0)),(4,.one zB),(5,.one zB)],[(0,[zB,zB])],[],1,26,[]⟩,fun K k v=>Qhi_r0 v K (fun x0=>k .ret ⟨[(4,.one (.pv x0))],[],[],2,26,[]⟩) (fun x0 x1 x2 x3 x4=>k (.exit 0) ⟨[(1,.one (.pv x0)),(2,.one (.ptr 0 0)),(4,.one (.pv x1)),(5,.one (.pv x2))],[(0,[.pv x3,.pv x4])],[],1,26,[]⟩)⟩]
theorem Qhi_s:xaC [⟨[110],Qdg⟩] TT (kk [1,2,4,5,22,23,999999]) Qhi_l f168 Qhi_l:=⟨fun v K k h=>by
 apply xab h;exact fun v0 v1 v2 v3 v4 h=>km h
 ,trivial⟩
theorem Qhi_w:EO ⟨[168],Qhi⟩:=oN (ec Qdg_w en) (keep:=(kk [1,2,4,5,22,23,999999])) (l:=Qhi_l) func168 Qhi_s fun av k h=>by
 unfold Qhi at h;split at h
 ·apply xab h;clear h;intro a0 a1 h;exact km h
 ·exact h.elim
def Qhj_r0 (v:List PV) (K:List PV→Prop) (x0k:PV→Prop) (x1k:Cur 4):Prop :=
 un 4 (fun v0 v1 v2 v3 =>
  xaH v0 fun r0 =>
  xac .lss v3 r0 fun r1 =>
  xad r1
   (xaj 4 v0 v3 fun c2 =>
   xac .eql (atP c2 0) v1 fun r3 =>
   xad r3
    (x0k v3)
    (xac .add v3 (I 1) fun r4 =>
    K [v0,v1,v2,r4]))
   (x1k v0 v1 v2 v3)) v
def Qhj:GM
 | [.one a0,.one a1],k =>
  lp (fun L w=>Qhj_r0 w L
   (fun q5=>rt [.sc] [q5] k)
   (fun q6 q7 q8 q9=>rt [.sc] [(I (-1))] k)) [a0,a1,(I 0),(I 0)]
 | _,_=>False
def Qhj_l:List LE:=[⟨none,0,⟨[(0,.one zB),(1,.one zB),(4,.one zB),(5,.one zB)],[],[],0,20,[]⟩,fun K k v=>Qhj_r0 v K (fun x0=>k .ret ⟨[(4,.one (.pv x0))],[],[],0,20,[]⟩) (fun x0 x1 x2 x3=>k (.exit 0) ⟨[(0,.one (.pv x0)),(1,.one (.pv x1)),(4,.one (.pv x2)),(5,.one (.pv x3))],[],[],0,20,[]⟩)⟩]
theorem Qhj_s:xaC [] TT (kk [0,1,4,5,999999]) Qhj_l f293 Qhj_l:=⟨fun v K k h=>by
 apply xab h;exact fun v0 v1 v2 v3 h=>km h
 ,trivial⟩
theorem Qhj_w:EO ⟨[293],Qhj⟩:=oN en (keep:=(kk [0,1,4,5,999999])) (l:=Qhj_l) func293 Qhj_s fun av k h=>by
 unfold Qhj at h;split at h
 ·exact km h
 ·exact h.elim
def Qhk_r0 (v:List PV) (K:List PV→Prop) (x0k:Cur 4):Prop :=
 un 4 (fun v0 v1 v2 v3 =>
  xaH v1 fun r0 =>
  xac .gtr r0 (I 1) fun r1 =>
  xad r1
   (xac .add v0 (I 1) fun r2 =>
   xac .rem v0 (I 2) fun r3 =>
   xac .mul (I 2) r3 fun r4 =>
   xac .sub r2 r4 fun r5 =>
   xaH v1 fun r6 =>
   xac .lss r5 r6 fun r7 =>
   xad r7
    (xaj 1 v1 r5 fun c8 =>
    (1=1)∧(1≤16777216)∧(1=1)∧(0=0)∧(1=1)∧(xae [.pv (I 0)] [.pv (atP c8 0)])∧xbd 1 v3 (.list 1 [[(atP c8 0)]]) fun r9 =>
    call Qda [.one v1] fun o10 =>
    xac .quo v0 (I 2) fun r11 =>
    K [r11,(atP o10 0),v2,r9])
    (call Qda [.one v1] fun o12 =>
    xac .quo v0 (I 2) fun r13 =>
    K [r13,(atP o12 0),v2,v3]))
   (x0k v0 v1 v2 v3)) v
def Qhk:GM
 | [.one a0,.one a1],k =>
  (0=0)∧(0≤16777216)∧(1=1)∧xaH a0 fun r0 =>
  xac .sub r0 (I 1) fun r1 =>
  call Qbo [.one a1,.one (I 0),.one r1] fun o2 =>
  unP .not (atP o2 0) fun r3 =>
  xad r3
   (rt [.own true 3 1] [(.list 1 [])] k)
   (lp (fun L w=>Qhk_r0 w L
    (fun q14 q15 q16 q17=>rt [.own true 3 1] [q17] k)) [a1,a0,(.list 1 []),(.list 1 [])])
 | _,_=>False
def Qhk_l:List LE:=[⟨none,0,⟨[(1,.one zB),(4,.one (.own 2)),(5,.one (.own 0)),(6,.one zB)],[],[(2,⟨.deep,3,1,(.bool false)⟩),(0,⟨.deep,3,1,(.bool false)⟩)],3,42,[]⟩,fun K k v=>Qhk_r0 v K (fun x0 x1 x2 x3=>k (.exit 0) ⟨[(1,.one (.pv x0)),(4,.one (.own 2)),(5,.one (.own 0)),(6,.one (.pv x1))],[],[(2,⟨.deep,3,1,x2⟩),(0,⟨.deep,3,1,x3⟩)],3,42,[]⟩)⟩]
theorem Qhk_s:xaC [⟨[133],Qbo⟩,⟨[362],Qda⟩] TT (kk [1,4,5,6,999999]) Qhk_l f346 Qhk_l:=⟨fun v K k h=>by
 apply xab h;exact fun v0 v1 v2 v3 h=>km h
 ,trivial⟩
theorem Qhk_w:EO ⟨[346],Qhk⟩:=oN (ec Qbo_w (ec Qda_w en)) (keep:=(kk [1,4,5,6,999999])) (l:=Qhk_l) func346 Qhk_s fun av k h=>by
 unfold Qhk at h;split at h
 ·exact km h
 ·exact h.elim
def Qhl:GM
 | [.one a0,.one a1],k =>
  call Qhj [.one a0,.one a1] fun o0 =>
  xac .lss (atP o0 0) (I 0) fun r1 =>
  xad r1
   (rt [.sc,.pv,.sc] [(I 0),(.list 1 []),(.bool false)] k)
   (call Qcy [.one a0] fun o2 =>
   call Qhk [.one (atP o2 0),.one (atP o0 0)] fun o3 =>
   rt [.sc,.pv,.sc] [(atP o0 0),(atP o3 0),(.bool true)] k)
 | _,_=>False
theorem Qhl_w:EO ⟨[294],Qhl⟩:=oNz (ec Qhj_w (ec Qcy_w (ec Qhk_w en))) func294 fun av k h=>by
 unfold Qhl at h;split at h
 ·exact km h
 ·exact h.elim
def Qhm_r0 (v:List PV) (K:List PV→Prop) (x0k:Cur 5):Prop :=
 un 5 (fun v0 v1 v2 v3 v4 =>
  xaH v0 fun r0 =>
  xac .lss v4 r0 fun r1 =>
  xad r1
   (xaj 4 v0 v4 fun c2 =>
   call Qcs [.one (atP c2 0),.one v1] fun o3 =>
   xac .lss (atP o3 0) (I 0) fun r4 =>
   xad r4
    (xac .add v3 (I 1) fun r5 =>
    xac .add v4 (I 1) fun r6 =>
    K [v0,v1,v2,r5,r6])
    (xac .add v4 (I 1) fun r7 =>
    K [v0,v1,v2,v3,r7]))
   (x0k v0 v1 v2 v3 v4)) v
def Qhm:GM
 | [.one a0,.one a1],k =>
  lp (fun L w=>Qhm_r0 w L
   (fun q8 q9 q10 q11 q12=>rt [.sc] [q11] k)) [a0,a1,(I 0),(I 0),(I 0)]
 | _,_=>False
def Qhm_l:List LE:=[⟨none,0,⟨[(0,.one zB),(1,.one zB),(4,.one zB),(5,.one zB),(6,.one zB)],[],[],0,24,[]⟩,fun K k v=>Qhm_r0 v K (fun x0 x1 x2 x3 x4=>k (.exit 0) ⟨[(0,.one (.pv x0)),(1,.one (.pv x1)),(4,.one (.pv x2)),(5,.one (.pv x3)),(6,.one (.pv x4))],[],[],0,24,[]⟩)⟩]
theorem Qhm_s:xaC [⟨[312],Qcs⟩] TT (kk [0,1,4,5,6,999999]) Qhm_l f347 Qhm_l:=⟨fun v K k h=>by
 apply xab h;exact fun v0 v1 v2 v3 v4 h=>km h
 ,trivial⟩
theorem Qhm_w:EO ⟨[347],Qhm⟩:=oN (ec Qcs_w en) (keep:=(kk [0,1,4,5,6,999999])) (l:=Qhm_l) func347 Qhm_s fun av k h=>by
 unfold Qhm at h;split at h
 ·exact km h
 ·exact h.elim
def Qhn:GM
 | [.one a0,.one a1],k =>
  call Qct [.one a0] fun o0 =>
  unP .not (atP o0 0) fun r1 =>
  xad r1
   (rt g4 [(I 0),(.str ⟨#[]⟩),(I 0),(I 0),(.list 1 []),(.str ⟨#[]⟩),(I 0),(I 0),(.list 1 []),(I 0),(.list 1 []),(I 0),(.list 1 []),(.bool false)] k)
   (call Qcp [.one a1] fun o2 =>
   unP .not (atP o2 0) fun r3 =>
   xad r3
    (rt g4 [(I 0),(.str ⟨#[]⟩),(I 0),(I 0),(.list 1 []),(.str ⟨#[]⟩),(I 0),(I 0),(.list 1 []),(I 0),(.list 1 []),(I 0),(.list 1 []),(.bool false)] k)
    (call Qhj [.one a0,.one a1] fun o4 =>
    xac .geq (atP o4 0) (I 0) fun r5 =>
    xad r5
     (rt g4 [(I 0),(.str ⟨#[]⟩),(I 0),(I 0),(.list 1 []),(.str ⟨#[]⟩),(I 0),(I 0),(.list 1 []),(I 0),(.list 1 []),(I 0),(.list 1 []),(.bool false)] k)
     (call Qhm [.one a0,.one a1] fun o6 =>
     xac .gtr (atP o6 0) (I 0) fun r7 =>
     xad r7
      (xac .sub (atP o6 0) (I 1) fun r8 =>
      xaj 4 a0 r8 fun c9 =>
      call Qbj [.agg (s4 c9)] fun o10 =>
      xac .sub (atP o6 0) (I 1) fun r11 =>
      xaj 4 a0 r11 fun c12 =>
      call Qhl [.one a0,.one (atP c12 0)] fun o13 =>
      xaH a0 fun r14 =>
      xac .lss (atP o6 0) r14 fun r15 =>
      xad r15
       (xaj 4 a0 (atP o6 0) fun c16 =>
       call Qbj [.agg (s4 c16)] fun o17 =>
       xaj 4 a0 (atP o6 0) fun c18 =>
       call Qhl [.one a0,.one (atP c18 0)] fun o19 =>
       rt g4 [(atP o6 0),(atP o10 0),(atP o10 1),(atP o10 2),(atP o10 3),(atP o17 0),(atP o17 1),(atP o17 2),(atP o17 3),(atP o13 0),(atP o13 1),(atP o19 0),(atP o19 1),(.bool true)] k)
       (rt g4 [(atP o6 0),(atP o10 0),(atP o10 1),(atP o10 2),(atP o10 3),(.str ⟨#[]⟩),(I 0),(I 0),(.list 1 []),(atP o13 0),(atP o13 1),(I 0),(.list 1 []),(.bool true)] k))
      (xaH a0 fun r20 =>
      xac .lss (atP o6 0) r20 fun r21 =>
      xad r21
       (xaj 4 a0 (atP o6 0) fun c22 =>
       call Qbj [.agg (s4 c22)] fun o23 =>
       xaj 4 a0 (atP o6 0) fun c24 =>
       call Qhl [.one a0,.one (atP c24 0)] fun o25 =>
       rt g4 [(atP o6 0),(.str ⟨#[]⟩),(I 0),(I 0),(.list 1 []),(atP o23 0),(atP o23 1),(atP o23 2),(atP o23 3),(I 0),(.list 1 []),(atP o25 0),(atP o25 1),(.bool true)] k)
       (rt g4 [(atP o6 0),(.str ⟨#[]⟩),(I 0),(I 0),(.list 1 []),(.str ⟨#[]⟩),(I 0),(I 0),(.list 1 []),(I 0),(.list 1 []),(I 0),(.list 1 []),(.bool true)] k)))))
 | _,_=>False
theorem Qhn_w:EO ⟨[295],Qhn⟩:=oNz (ec Qct_w (ec Qcp_w (ec Qhj_w (ec Qhm_w (ec Qbj_w (ec Qhl_w en)))))) func295 fun av k h=>by
 unfold Qhn at h;split at h
 ·exact km h
 ·exact h.elim
def Qho:GM
 | [.agg u0,.one a2],k=>un 2 (fun a0 a1 =>
  call Qdf [.agg [a0,a1]] fun o0 =>
  unP .not (atP o0 0) fun r1 =>
  xad r1
   (rt g2 [(.list 17 []),(.bool false),(.str ⟨#[]⟩),(I 0),(I 0),(.list 1 []),(I 0),(.list 1 []),(I 0),(.str ⟨#[]⟩),(I 0),(I 0),(.list 1 []),(.str ⟨#[]⟩),(I 0),(I 0),(.list 1 []),(I 0),(.list 1 []),(I 0),(.list 1 [])] k)
   (call Qcp [.one a2] fun o2 =>
   unP .not (atP o2 0) fun r3 =>
   xad r3
    (rt g2 [(.list 17 []),(.bool false),(.str ⟨#[]⟩),(I 0),(I 0),(.list 1 []),(I 0),(.list 1 []),(I 0),(.str ⟨#[]⟩),(I 0),(I 0),(.list 1 []),(.str ⟨#[]⟩),(I 0),(I 0),(.list 1 []),(I 0),(.list 1 []),(I 0),(.list 1 [])] k)
    (call Qbf [.one a0] fun o4 =>
    call Qhj [.one a1,.one a2] fun o5 =>
    xac .geq (atP o5 0) (I 0) fun r6 =>
    xad r6
     (xaj 4 a1 (atP o5 0) fun c7 =>
     call Qbj [.agg (s4 c7)] fun o8 =>
     call Qhl [.one a1,.one a2] fun o9 =>
     rt g2 [(atP o4 0),(.bool true),(atP o8 0),(atP o8 1),(atP o8 2),(atP o8 3),(atP o9 0),(atP o9 1),(I 0),(.str ⟨#[]⟩),(I 0),(I 0),(.list 1 []),(.str ⟨#[]⟩),(I 0),(I 0),(.list 1 []),(I 0),(.list 1 []),(I 0),(.list 1 [])] k)
     (call Qhn [.one a1,.one a2] fun o10 =>
     rt g2 [(atP o4 0),(.bool false),(.str ⟨#[]⟩),(I 0),(I 0),(.list 1 []),(I 0),(.list 1 []),(atP o10 0),(atP o10 1),(atP o10 2),(atP o10 3),(atP o10 4),(atP o10 5),(atP o10 6),(atP o10 7),(atP o10 8),(atP o10 9),(atP o10 10),(atP o10 11),(atP o10 12)] k)))) u0
 | _,_=>False
theorem Qho_w:EO ⟨[236],Qho⟩:=oNz (ec Qdf_w (ec Qcp_w (ec Qbf_w (ec Qhj_w (ec Qbj_w (ec Qhl_w (ec Qhn_w en))))))) func236 fun av k h=>by
 unfold Qho at h;split at h
 ·apply xab h;clear h;intro a0 a1 h;exact km h
 ·exact h.elim
def Qhp:GM
 | [.agg u0,.one a2,.one a3],k=>un 2 (fun a0 a1 =>
  call Qhi [.agg [a0,a1],.one a2] fun o0 =>
  xac .lss (atP o0 0) (I 0) fun r1 =>
  xad r1
   (rt g2 [(.list 17 []),(.bool false),(.str ⟨#[]⟩),(I 0),(I 0),(.list 1 []),(I 0),(.list 1 []),(I 0),(.str ⟨#[]⟩),(I 0),(I 0),(.list 1 []),(.str ⟨#[]⟩),(I 0),(I 0),(.list 1 []),(I 0),(.list 1 []),(I 0),(.list 1 [])] k)
   (xac .eql a1 (I 4) fun r2 =>
   xad r2
    (rt g2 [(.list 17 []),(.bool false),(.str ⟨#[]⟩),(I 0),(I 0),(.list 1 []),(I 0),(.list 1 []),(I 0),(.str ⟨#[]⟩),(I 0),(I 0),(.list 1 []),(.str ⟨#[]⟩),(I 0),(I 0),(.list 1 []),(I 0),(.list 1 []),(I 0),(.list 1 [])] k)
    (xaj 2 a0 (atP o0 0) fun c3 =>
    call Qho [.agg [(atP c3 0),(atP c3 1)],.one a3] fun o4 =>
    xac .eql a1 (I 1) fun r5 =>
    xad r5
     (xac .add (atP o4 4) (I 1) fun r6 =>
     rt g2 [(atP o4 0),(atP o4 1),(atP o4 2),(atP o4 3),r6,(atP o4 5),(atP o4 6),(atP o4 7),(atP o4 8),(atP o4 9),(atP o4 10),(atP o4 11),(atP o4 12),(atP o4 13),(atP o4 14),(atP o4 15),(atP o4 16),(atP o4 17),(atP o4 18),(atP o4 19),(atP o4 20)] k)
     (xac .eql a1 (I 2) fun r7 =>
     xad r7
      (xaH (atP o4 0) fun r8 =>
      xac .gtr r8 (I 0) fun r9 =>
      xad r9
       (xaH (atP o4 0) fun r10 =>
       xac .sub r10 (I 1) fun r11 =>
       xg6 r11 fun n12 =>
       xf8 17 (atP o4 0) none (some n12) fun r13 =>
       rt g2 [r13,(atP o4 1),(atP o4 2),(atP o4 3),(atP o4 4),(atP o4 5),(atP o4 6),(atP o4 7),(atP o4 8),(atP o4 9),(atP o4 10),(atP o4 11),(atP o4 12),(atP o4 13),(atP o4 14),(atP o4 15),(atP o4 16),(atP o4 17),(atP o4 18),(atP o4 19),(atP o4 20)] k)
       (rt g2 (s21 o4) k))
      (xac .eql a1 (I 3) fun r14 =>
      xad r14
       (rt g2 [(atP o4 0),(.bool false),(.str ⟨#[]⟩),(I 0),(I 0),(.list 1 []),(I 0),(.list 1 []),(I 0),(.str ⟨#[]⟩),(I 0),(I 0),(.list 1 []),(.str ⟨#[]⟩),(I 0),(I 0),(.list 1 []),(I 0),(.list 1 []),(I 0),(.list 1 [])] k)
       (rt g2 (s21 o4) k)))))) u0
 | _,_=>False
theorem Qhp_w:EO ⟨[170],Qhp⟩:=oNz (ec Qhi_w (ec Qho_w en)) func170 fun av k h=>by
 unfold Qhp at h;split at h
 ·apply xab h;clear h;intro a0 a1 h;exact km h
 ·exact h.elim
def Qhq_r0 (v:List PV) (K:List PV→Prop) (x0k:PV→Prop) (x1k:Cur 5):Prop :=
 un 5 (fun v0 v1 v2 v3 v4 =>
  xaH v3 fun r0 =>
  xac .lss v2 r0 fun r1 =>
  xad r1
   (xaj 1 v3 v2 fun c2 =>
   xaH (atP c2 0) fun r3 =>
   xac .gtr r3 (I 0) fun r4 =>
   xad r4
    (xaj 1 v3 v2 fun c5 =>
    xaj 17 (atP c5 0) (I 0) fun c6 =>
    xac .eql (atP c6 0) v0 fun r7 =>
    xad r7
     (x0k v2)
     (xac .add v2 (I 1) fun r8 =>
     K [v0,v1,r8,v3,v4]))
    (xac .add v2 (I 1) fun r9 =>
    K [v0,v1,r9,v3,v4]))
   (x1k v0 v1 v2 v3 v4)) v
def Qhq:GM
 | [.agg u0,.one a2],k=>un 2 (fun a0 a1 =>
  lp (fun L w=>Qhq_r0 w L
   (fun q10=>rt [.sc] [q10] k)
   (fun q11 q12 q13 q14 q15=>rt [.sc] [(I (-1))] k)) [a2,(I 0),(I 0),a0,a1]) u0
 | _,_=>False
def Qhq_l:List LE:=[⟨none,0,⟨[(1,.one zB),(2,.one (.ptr 0 0)),(4,.one zB),(5,.one zB)],[(0,[zB,zB])],[],1,34,[]⟩,fun K k v=>Qhq_r0 v K (fun x0=>k .ret ⟨[(4,.one (.pv x0))],[],[],1,34,[]⟩) (fun x0 x1 x2 x3 x4=>k (.exit 0) ⟨[(1,.one (.pv x0)),(2,.one (.ptr 0 0)),(4,.one (.pv x1)),(5,.one (.pv x2))],[(0,[.pv x3,.pv x4])],[],1,34,[]⟩)⟩]
theorem Qhq_s:xaC [] TT (kk [1,2,4,5,21,22,23,24,25,26,27,28,29,30,31,999999]) Qhq_l f240 Qhq_l:=⟨fun v K k h=>by
 apply xab h;exact fun v0 v1 v2 v3 v4 h=>km h
 ,trivial⟩
theorem Qhq_w:EO ⟨[240],Qhq⟩:=oN en (keep:=(kk [1,2,4,5,21,22,23,24,25,26,27,28,29,30,31,999999])) (l:=Qhq_l) func240 Qhq_s fun av k h=>by
 unfold Qhq at h;split at h
 ·apply xab h;clear h;intro a0 a1 h;exact km h
 ·exact h.elim
def Qhr:GM
 | [.agg u0,.agg u1],k=>un 16 (fun a0 a1 a2 a3 a4 a5 a6 a7 a8 a9 a10 a11 a12 a13 a14 a15=>un 16 (fun a16 a17 a18 a19 a20 a21 a22 a23 a24 a25 a26 a27 a28 a29 a30 a31 =>
  call Qbw [.agg [a0,a1,a2,a3,a4,a5,a6,a7,a8,a9,a10,a11,a12,a13,a14,a15]] fun o0 =>
  call Qbw [.agg [a16,a17,a18,a19,a20,a21,a22,a23,a24,a25,a26,a27,a28,a29,a30,a31]] fun o1 =>
  call Qcf [.one (atP o0 0),.one (atP o1 0)] fun o2 =>
  xad (atP o2 0)
   (xen .eql a15 a31 fun r3 =>
   rt [.sc] [r3] k)
   (rt [.sc] [(.bool false)] k)) u1) u0
 | _,_=>False
theorem Qhr_w:EO ⟨[299],Qhr⟩:=oNz (ec Qbw_w (ec Qcf_w en)) func299 fun av k h=>by
 unfold Qhr at h;split at h
 ·apply xab h;clear h;(repeat intro _);rename_i h;apply xab h;clear h;(repeat intro _);rename_i h;exact km h
 ·exact h.elim
def Qhs_r0 (v:List PV) (K:List PV→Prop) (x0k:Prop) (x1k:Cur 4):Prop :=
 un 4 (fun v0 v1 v2 v3 =>
  xaH v0 fun r0 =>
  xac .lss v3 r0 fun r1 =>
  xad r1
   (xaj 17 v0 v3 fun c2 =>
   xaj 17 v1 v3 fun c3 =>
   call Qhr [.agg (s16 c2),.agg (s16 c3)] fun o4 =>
   unP .not (atP o4 0) fun r5 =>
   xad r5
    (x0k)
    (xac .add v3 (I 1) fun r6 =>
    K [v0,v1,v2,r6]))
   (x1k v0 v1 v2 v3)) v
def Qhs:GM
 | [.one a0,.one a1],k =>
  xaH a0 fun r0 =>
  xaH a1 fun r1 =>
  xac .gtr r0 r1 fun r2 =>
  xad r2
   (rt [.sc] [(.bool false)] k)
   (lp (fun L w=>Qhs_r0 w L
    (rt [.sc] [(.bool false)] k)
    (fun q7 q8 q9 q10=>rt [.sc] [(.bool true)] k)) [a0,a1,(.bool false),(I 0)])
 | _,_=>False
def Qhs_l:List LE:=[⟨none,0,⟨[(0,.one zB),(1,.one zB),(4,.one zB),(5,.one zB)],[],[],0,29,[]⟩,fun K k v=>Qhs_r0 v K (k .ret ⟨[(4,.one (.kb false))],[],[],1,29,[]⟩) (fun x0 x1 x2 x3=>k (.exit 0) ⟨[(0,.one (.pv x0)),(1,.one (.pv x1)),(4,.one (.pv x2)),(5,.one (.pv x3))],[],[],0,29,[]⟩)⟩]
theorem Qhs_s:xaC [⟨[299],Qhr⟩] TT (kk [0,1,4,5,999999]) Qhs_l f298 Qhs_l:=⟨fun v K k h=>by
 apply xab h;exact fun v0 v1 v2 v3 h=>km h
 ,trivial⟩
theorem Qhs_w:EO ⟨[298],Qhs⟩:=oN (ec Qhr_w en) (keep:=(kk [0,1,4,5,999999])) (l:=Qhs_l) func298 Qhs_s fun av k h=>by
 unfold Qhs at h;split at h
 ·exact km h
 ·exact h.elim
def Qht:GM
 | [.agg u0,.one a2],k=>un 2 (fun a0 a1 =>
  call Qcn [.one a2] fun o0 =>
  unP .not (atP o0 0) fun r1 =>
  xad r1
   (rt [.sc] [(I 6)] k)
   (xaj 17 a2 (I 0) fun c2 =>
   call Qhq [.agg [a0,a1],.one (atP c2 0)] fun o3 =>
   xac .lss (atP o3 0) (I 0) fun r4 =>
   xad r4
    (rt [.sc] [(I 1)] k)
    (xaj 1 a0 (atP o3 0) fun c5 =>
    call Qhs [.one (atP c5 0),.one a2] fun o6 =>
    xaj 1 a0 (atP o3 0) fun c7 =>
    call Qhs [.one a2,.one (atP c7 0)] fun o8 =>
    xad (atP o6 0)
     (xad (atP o8 0)
      (rt [.sc] [(I 2)] k)
      (xad (atP o6 0)
       (rt [.sc] [(I 3)] k)
       (xad (atP o8 0)
        (rt [.sc] [(I 4)] k)
        (rt [.sc] [(I 5)] k))))
     (xad (atP o6 0)
      (rt [.sc] [(I 3)] k)
      (xad (atP o8 0)
       (rt [.sc] [(I 4)] k)
       (rt [.sc] [(I 5)] k)))))) u0
 | _,_=>False
theorem Qht_w:EO ⟨[239],Qht⟩:=oNz (ec Qcn_w (ec Qhq_w (ec Qhs_w en))) func239 fun av k h=>by
 unfold Qht at h;split at h
 ·apply xab h;clear h;intro a0 a1 h;exact km h
 ·exact h.elim
def Qhu_r0 (v:List PV) (K:List PV→Prop) (x0k:Cur 92) (x1k:Cur 57) (x2k:Cur 55):Prop :=
 un 55 (fun v0 v1 v2 v3 v4 v5 v6 v7 v8 v9 v10 v11 v12 v13 v14 v15 v16 v17 v18 v19 v20 v21 v22 v23 v24 v25 v26 v27 v28 v29 v30 v31 v32 v33 v34 v35 v36 v37 v38 v39 v40 v41 v42 v43 v44 v45 v46 v47 v48 v49 v50 v51 v52 v53 v54 =>
  xaH v0 fun r0 =>
  xac .lss v3 r0 fun r1 =>
  xad r1
   (xaH v1 fun r2 =>
   xac .lss v3 r2 fun r3 =>
   xad r3
    (xaj 17 v0 v3 fun c4 =>
    xaj 17 v1 v3 fun c5 =>
    call Qhr [.agg [(atP c4 0),(atP c4 1),(atP c4 2),(atP c4 3),(atP c4 4),(atP c4 5),(atP c4 6),(atP c4 7),(atP c4 8),(atP c4 9),(atP c4 10),(atP c4 11),(atP c4 12),(atP c4 13),(atP c4 14),(atP c4 15)],.agg [(atP c5 0),(atP c5 1),(atP c5 2),(atP c5 3),(atP c5 4),(atP c5 5),(atP c5 6),(atP c5 7),(atP c5 8),(atP c5 9),(atP c5 10),(atP c5 11),(atP c5 12),(atP c5 13),(atP c5 14),(atP c5 15)]] fun o6 =>
    xad (atP o6 0)
     (xac .add v3 (I 1) fun r7 =>
     K [v0,v1,v2,r7,v4,v5,v6,v7,v8,v9,v10,v11,v12,v13,v14,v15,v16,v17,v18,v19,v20,v21,v22,v23,v24,v25,v26,v27,v28,v29,v30,v31,v32,v33,v34,v35,v36,v37,v38,v39,v40,v41,v42,v43,v44,v45,v46,v47,v48,v49,v50,v51,v52,v53,v54])
     (x0k v0 v1 v2 v3 r2 r3 (atP c4 0) (atP c4 1) (atP c4 2) (atP c4 3) (atP c4 4) (atP c4 5) (atP c4 6) (atP c4 7) (atP c4 8) (atP c4 9) (atP c4 10) (atP c4 11) (atP c4 12) (atP c4 13) (atP c4 14) (atP c4 15) (atP c4 16) (atP c5 0) (atP c5 1) (atP c5 2) (atP c5 3) (atP c5 4) (atP c5 5) (atP c5 6) (atP c5 7) (atP c5 8) (atP c5 9) (atP c5 10) (atP c5 11) (atP c5 12) (atP c5 13) (atP c5 14) (atP c5 15) (atP c5 16) (atP o6 0) v4 v5 v6 v7 v8 v9 v10 v11 v12 v13 v14 v15 v16 v17 v18 v19 v20 v21 v22 v23 v24 v25 v26 v27 v28 v29 v30 v31 v32 v33 v34 v35 v36 v37 v38 v39 v40 v41 v42 v43 v44 v45 v46 v47 v48 v49 v50 v51 v52 v53 v54))
    (x1k v0 v1 v2 v3 r2 r3 v4 v5 v6 v7 v8 v9 v10 v11 v12 v13 v14 v15 v16 v17 v18 v19 v20 v21 v22 v23 v24 v25 v26 v27 v28 v29 v30 v31 v32 v33 v34 v35 v36 v37 v38 v39 v40 v41 v42 v43 v44 v45 v46 v47 v48 v49 v50 v51 v52 v53 v54))
   (x2k v0 v1 v2 v3 v4 v5 v6 v7 v8 v9 v10 v11 v12 v13 v14 v15 v16 v17 v18 v19 v20 v21 v22 v23 v24 v25 v26 v27 v28 v29 v30 v31 v32 v33 v34 v35 v36 v37 v38 v39 v40 v41 v42 v43 v44 v45 v46 v47 v48 v49 v50 v51 v52 v53 v54)) v
def Qhu:GM
 | [.one a0,.one a1],k =>
  call Qcn [.one a0] fun o0 =>
  unP .not (atP o0 0) fun r1 =>
  xad r1
   (rt g3 [(I 0),(I 0),(I 0),(I 0),(I 0),(I 0),(I 0),(I 0),(.list 1 []),(I 0),(.list 1 []),(I 0),(I 0),(.list 1 []),(I 0),(.bool false),(.list 2 []),(I 0),(I 0),(I 0),(I 0),(I 0),(I 0),(I 0),(I 0),(.list 1 []),(I 0),(.list 1 []),(I 0),(I 0),(.list 1 []),(I 0),(.bool false),(.list 2 []),(I 0),(I 0),(I 0),(I 0),(I 0),(I 0),(I 0),(I 0),(.list 1 []),(I 0),(.list 1 []),(I 0),(I 0),(.list 1 []),(I 0),(.bool false),(.list 2 []),(.bool false)] k)
   (call Qcn [.one a1] fun o2 =>
   unP .not (atP o2 0) fun r3 =>
   xad r3
    (rt g3 [(I 0),(I 0),(I 0),(I 0),(I 0),(I 0),(I 0),(I 0),(.list 1 []),(I 0),(.list 1 []),(I 0),(I 0),(.list 1 []),(I 0),(.bool false),(.list 2 []),(I 0),(I 0),(I 0),(I 0),(I 0),(I 0),(I 0),(I 0),(.list 1 []),(I 0),(.list 1 []),(I 0),(I 0),(.list 1 []),(I 0),(.bool false),(.list 2 []),(I 0),(I 0),(I 0),(I 0),(I 0),(I 0),(I 0),(I 0),(.list 1 []),(I 0),(.list 1 []),(I 0),(I 0),(.list 1 []),(I 0),(.bool false),(.list 2 []),(.bool false)] k)
    (xaj 17 a0 (I 0) fun c4 =>
    xaj 17 a1 (I 0) fun c5 =>
    xac .neq (atP c4 0) (atP c5 0) fun r6 =>
    xad r6
     (rt g3 [(I 0),(I 0),(I 0),(I 0),(I 0),(I 0),(I 0),(I 0),(.list 1 []),(I 0),(.list 1 []),(I 0),(I 0),(.list 1 []),(I 0),(.bool false),(.list 2 []),(I 0),(I 0),(I 0),(I 0),(I 0),(I 0),(I 0),(I 0),(.list 1 []),(I 0),(.list 1 []),(I 0),(I 0),(.list 1 []),(I 0),(.bool false),(.list 2 []),(I 0),(I 0),(I 0),(I 0),(I 0),(I 0),(I 0),(I 0),(.list 1 []),(I 0),(.list 1 []),(I 0),(I 0),(.list 1 []),(I 0),(.bool false),(.list 2 []),(.bool false)] k)
     (call Qhs [.one a0,.one a1] fun o7 =>
     xad (atP o7 0)
      (rt g3 [(I 0),(I 0),(I 0),(I 0),(I 0),(I 0),(I 0),(I 0),(.list 1 []),(I 0),(.list 1 []),(I 0),(I 0),(.list 1 []),(I 0),(.bool false),(.list 2 []),(I 0),(I 0),(I 0),(I 0),(I 0),(I 0),(I 0),(I 0),(.list 1 []),(I 0),(.list 1 []),(I 0),(I 0),(.list 1 []),(I 0),(.bool false),(.list 2 []),(I 0),(I 0),(I 0),(I 0),(I 0),(I 0),(I 0),(I 0),(.list 1 []),(I 0),(.list 1 []),(I 0),(I 0),(.list 1 []),(I 0),(.bool false),(.list 2 []),(.bool false)] k)
      (call Qhs [.one a1,.one a0] fun o8 =>
      xad (atP o8 0)
       (rt g3 [(I 0),(I 0),(I 0),(I 0),(I 0),(I 0),(I 0),(I 0),(.list 1 []),(I 0),(.list 1 []),(I 0),(I 0),(.list 1 []),(I 0),(.bool false),(.list 2 []),(I 0),(I 0),(I 0),(I 0),(I 0),(I 0),(I 0),(I 0),(.list 1 []),(I 0),(.list 1 []),(I 0),(I 0),(.list 1 []),(I 0),(.bool false),(.list 2 []),(I 0),(I 0),(I 0),(I 0),(I 0),(I 0),(I 0),(I 0),(.list 1 []),(I 0),(.list 1 []),(I 0),(I 0),(.list 1 []),(I 0),(.bool false),(.list 2 []),(.bool false)] k)
       (lp (fun L w=>Qhu_r0 w L
        (fun q9 q10 q11 q12 q13 q14 q15 q16 q17 q18 q19 q20 q21 q22 q23 q24 q25 q26 q27 q28 q29 q30 q31 q32 q33 q34 q35 q36 q37 q38 q39 q40 q41 q42 q43 q44 q45 q46 q47 q48 q49 q50 q51 q52 q53 q54 q55 q56 q57 q58 q59 q60 q61 q62 q63 q64 q65 q66 q67 q68 q69 q70 q71 q72 q73 q74 q75 q76 q77 q78 q79 q80 q81 q82 q83 q84 q85 q86 q87 q88 q89 q90 q91 q92 q93 q94 q95 q96 q97 q98 q99 q100=>xaj 17 q9 q12 fun c101 =>
         call Qbe [.agg [(atP c101 0),(atP c101 1),(atP c101 2),(atP c101 3),(atP c101 4),(atP c101 5),(atP c101 6),(atP c101 7),(atP c101 8),(atP c101 9),(atP c101 10),(atP c101 11),(atP c101 12),(atP c101 13),(atP c101 14),(atP c101 15),(atP c101 16)]] fun o102 =>
         xaj 17 q10 q12 fun c103 =>
         call Qbe [.agg [(atP c103 0),(atP c103 1),(atP c103 2),(atP c103 3),(atP c103 4),(atP c103 5),(atP c103 6),(atP c103 7),(atP c103 8),(atP c103 9),(atP c103 10),(atP c103 11),(atP c103 12),(atP c103 13),(atP c103 14),(atP c103 15),(atP c103 16)]] fun o104 =>
         xac .gtr q12 (I 0) fun r105 =>
         xad r105
          (xac .sub q12 (I 1) fun r106 =>
          xaj 17 q9 r106 fun c107 =>
          call Qbe [.agg [(atP c107 0),(atP c107 1),(atP c107 2),(atP c107 3),(atP c107 4),(atP c107 5),(atP c107 6),(atP c107 7),(atP c107 8),(atP c107 9),(atP c107 10),(atP c107 11),(atP c107 12),(atP c107 13),(atP c107 14),(atP c107 15),(atP c107 16)]] fun o108 =>
          rt g3 [(atP o108 0),(atP o108 1),(atP o108 2),(atP o108 3),(atP o108 4),(atP o108 5),(atP o108 6),(atP o108 7),(atP o108 8),(atP o108 9),(atP o108 10),(atP o108 11),(atP o108 12),(atP o108 13),(atP o108 14),(atP o108 15),(atP o108 16),(atP o102 0),(atP o102 1),(atP o102 2),(atP o102 3),(atP o102 4),(atP o102 5),(atP o102 6),(atP o102 7),(atP o102 8),(atP o102 9),(atP o102 10),(atP o102 11),(atP o102 12),(atP o102 13),(atP o102 14),(atP o102 15),(atP o102 16),(atP o104 0),(atP o104 1),(atP o104 2),(atP o104 3),(atP o104 4),(atP o104 5),(atP o104 6),(atP o104 7),(atP o104 8),(atP o104 9),(atP o104 10),(atP o104 11),(atP o104 12),(atP o104 13),(atP o104 14),(atP o104 15),(atP o104 16),(.bool true)] k)
          (rt g3 [(I 0),(I 0),(I 0),(I 0),(I 0),(I 0),(I 0),(I 0),(.list 1 []),(I 0),(.list 1 []),(I 0),(I 0),(.list 1 []),(I 0),(.bool false),(.list 2 []),(atP o102 0),(atP o102 1),(atP o102 2),(atP o102 3),(atP o102 4),(atP o102 5),(atP o102 6),(atP o102 7),(atP o102 8),(atP o102 9),(atP o102 10),(atP o102 11),(atP o102 12),(atP o102 13),(atP o102 14),(atP o102 15),(atP o102 16),(atP o104 0),(atP o104 1),(atP o104 2),(atP o104 3),(atP o104 4),(atP o104 5),(atP o104 6),(atP o104 7),(atP o104 8),(atP o104 9),(atP o104 10),(atP o104 11),(atP o104 12),(atP o104 13),(atP o104 14),(atP o104 15),(atP o104 16),(.bool true)] k))
        (fun q109 q110 q111 q112 q113 q114 q115 q116 q117 q118 q119 q120 q121 q122 q123 q124 q125 q126 q127 q128 q129 q130 q131 q132 q133 q134 q135 q136 q137 q138 q139 q140 q141 q142 q143 q144 q145 q146 q147 q148 q149 q150 q151 q152 q153 q154 q155 q156 q157 q158 q159 q160 q161 q162 q163 q164 q165=>xaj 17 q109 q112 fun c166 =>
         call Qbe [.agg [(atP c166 0),(atP c166 1),(atP c166 2),(atP c166 3),(atP c166 4),(atP c166 5),(atP c166 6),(atP c166 7),(atP c166 8),(atP c166 9),(atP c166 10),(atP c166 11),(atP c166 12),(atP c166 13),(atP c166 14),(atP c166 15),(atP c166 16)]] fun o167 =>
         xaj 17 q110 q112 fun c168 =>
         call Qbe [.agg [(atP c168 0),(atP c168 1),(atP c168 2),(atP c168 3),(atP c168 4),(atP c168 5),(atP c168 6),(atP c168 7),(atP c168 8),(atP c168 9),(atP c168 10),(atP c168 11),(atP c168 12),(atP c168 13),(atP c168 14),(atP c168 15),(atP c168 16)]] fun o169 =>
         xac .gtr q112 (I 0) fun r170 =>
         xad r170
          (xac .sub q112 (I 1) fun r171 =>
          xaj 17 q109 r171 fun c172 =>
          call Qbe [.agg [(atP c172 0),(atP c172 1),(atP c172 2),(atP c172 3),(atP c172 4),(atP c172 5),(atP c172 6),(atP c172 7),(atP c172 8),(atP c172 9),(atP c172 10),(atP c172 11),(atP c172 12),(atP c172 13),(atP c172 14),(atP c172 15),(atP c172 16)]] fun o173 =>
          rt g3 [(atP o173 0),(atP o173 1),(atP o173 2),(atP o173 3),(atP o173 4),(atP o173 5),(atP o173 6),(atP o173 7),(atP o173 8),(atP o173 9),(atP o173 10),(atP o173 11),(atP o173 12),(atP o173 13),(atP o173 14),(atP o173 15),(atP o173 16),(atP o167 0),(atP o167 1),(atP o167 2),(atP o167 3),(atP o167 4),(atP o167 5),(atP o167 6),(atP o167 7),(atP o167 8),(atP o167 9),(atP o167 10),(atP o167 11),(atP o167 12),(atP o167 13),(atP o167 14),(atP o167 15),(atP o167 16),(atP o169 0),(atP o169 1),(atP o169 2),(atP o169 3),(atP o169 4),(atP o169 5),(atP o169 6),(atP o169 7),(atP o169 8),(atP o169 9),(atP o169 10),(atP o169 11),(atP o169 12),(atP o169 13),(atP o169 14),(atP o169 15),(atP o169 16),(.bool true)] k)
          (rt g3 [(I 0),(I 0),(I 0),(I 0),(I 0),(I 0),(I 0),(I 0),(.list 1 []),(I 0),(.list 1 []),(I 0),(I 0),(.list 1 []),(I 0),(.bool false),(.list 2 []),(atP o167 0),(atP o167 1),(atP o167 2),(atP o167 3),(atP o167 4),(atP o167 5),(atP o167 6),(atP o167 7),(atP o167 8),(atP o167 9),(atP o167 10),(atP o167 11),(atP o167 12),(atP o167 13),(atP o167 14),(atP o167 15),(atP o167 16),(atP o169 0),(atP o169 1),(atP o169 2),(atP o169 3),(atP o169 4),(atP o169 5),(atP o169 6),(atP o169 7),(atP o169 8),(atP o169 9),(atP o169 10),(atP o169 11),(atP o169 12),(atP o169 13),(atP o169 14),(atP o169 15),(atP o169 16),(.bool true)] k))
        (fun q174 q175 q176 q177 q178 q179 q180 q181 q182 q183 q184 q185 q186 q187 q188 q189 q190 q191 q192 q193 q194 q195 q196 q197 q198 q199 q200 q201 q202 q203 q204 q205 q206 q207 q208 q209 q210 q211 q212 q213 q214 q215 q216 q217 q218 q219 q220 q221 q222 q223 q224 q225 q226 q227 q228=>xaj 17 q174 q177 fun c229 =>
         call Qbe [.agg [(atP c229 0),(atP c229 1),(atP c229 2),(atP c229 3),(atP c229 4),(atP c229 5),(atP c229 6),(atP c229 7),(atP c229 8),(atP c229 9),(atP c229 10),(atP c229 11),(atP c229 12),(atP c229 13),(atP c229 14),(atP c229 15),(atP c229 16)]] fun o230 =>
         xaj 17 q175 q177 fun c231 =>
         call Qbe [.agg [(atP c231 0),(atP c231 1),(atP c231 2),(atP c231 3),(atP c231 4),(atP c231 5),(atP c231 6),(atP c231 7),(atP c231 8),(atP c231 9),(atP c231 10),(atP c231 11),(atP c231 12),(atP c231 13),(atP c231 14),(atP c231 15),(atP c231 16)]] fun o232 =>
         xac .gtr q177 (I 0) fun r233 =>
         xad r233
          (xac .sub q177 (I 1) fun r234 =>
          xaj 17 q174 r234 fun c235 =>
          call Qbe [.agg [(atP c235 0),(atP c235 1),(atP c235 2),(atP c235 3),(atP c235 4),(atP c235 5),(atP c235 6),(atP c235 7),(atP c235 8),(atP c235 9),(atP c235 10),(atP c235 11),(atP c235 12),(atP c235 13),(atP c235 14),(atP c235 15),(atP c235 16)]] fun o236 =>
          rt g3 [(atP o236 0),(atP o236 1),(atP o236 2),(atP o236 3),(atP o236 4),(atP o236 5),(atP o236 6),(atP o236 7),(atP o236 8),(atP o236 9),(atP o236 10),(atP o236 11),(atP o236 12),(atP o236 13),(atP o236 14),(atP o236 15),(atP o236 16),(atP o230 0),(atP o230 1),(atP o230 2),(atP o230 3),(atP o230 4),(atP o230 5),(atP o230 6),(atP o230 7),(atP o230 8),(atP o230 9),(atP o230 10),(atP o230 11),(atP o230 12),(atP o230 13),(atP o230 14),(atP o230 15),(atP o230 16),(atP o232 0),(atP o232 1),(atP o232 2),(atP o232 3),(atP o232 4),(atP o232 5),(atP o232 6),(atP o232 7),(atP o232 8),(atP o232 9),(atP o232 10),(atP o232 11),(atP o232 12),(atP o232 13),(atP o232 14),(atP o232 15),(atP o232 16),(.bool true)] k)
          (rt g3 [(I 0),(I 0),(I 0),(I 0),(I 0),(I 0),(I 0),(I 0),(.list 1 []),(I 0),(.list 1 []),(I 0),(I 0),(.list 1 []),(I 0),(.bool false),(.list 2 []),(atP o230 0),(atP o230 1),(atP o230 2),(atP o230 3),(atP o230 4),(atP o230 5),(atP o230 6),(atP o230 7),(atP o230 8),(atP o230 9),(atP o230 10),(atP o230 11),(atP o230 12),(atP o230 13),(atP o230 14),(atP o230 15),(atP o230 16),(atP o232 0),(atP o232 1),(atP o232 2),(atP o232 3),(atP o232 4),(atP o232 5),(atP o232 6),(atP o232 7),(atP o232 8),(atP o232 9),(atP o232 10),(atP o232 11),(atP o232 12),(atP o232 13),(atP o232 14),(atP o232 15),(atP o232 16),(.bool true)] k))) [a0,a1,(.bool false),(I 0),(I 0),(I 0),(I 0),(I 0),(I 0),(I 0),(I 0),(I 0),(I 0),(I 0),(I 0),(I 0),(.bool false),(I 0),(I 0),(I 0),(I 0),(I 0),(I 0),(I 0),(I 0),(I 0),(I 0),(I 0),(I 0),(.bool false),(I 0),(I 0),(I 0),(I 0),(I 0),(I 0),(I 0),(I 0),(I 0),(I 0),(I 0),(I 0),(.bool false),(.list 2 []),(.list 1 []),(.list 1 []),(.list 1 []),(.list 2 []),(.list 1 []),(.list 1 []),(.list 1 []),(.list 2 []),(.list 1 []),(.list 1 []),(.list 1 [])])))))
 | _,_=>False
def Qhu_l:List LE:=[⟨none,0,⟨[(0,.one zB),(1,.one zB),(4,.one (.ptr 0 0)),(5,.one zB),(6,.one zB)],[(0,[zB,zB,zB,zB,zB,zB,zB,zB,.own 5,zB,.own 6,zB,zB,.own 7,zB,zB,.own 8,zB,zB,zB,zB,zB,zB,zB,zB,.own 9,zB,.own 10,zB,zB,.own 11,zB,zB,.own 12,zB,zB,zB,zB,zB,zB,zB,zB,.own 13,zB,.own 14,zB,zB,.own 15,zB,zB,.own 16])],[(16,⟨.deep,317,2,(.bool false)⟩),(15,⟨.deep,3,1,(.bool false)⟩),(14,⟨.deep,3,1,(.bool false)⟩),(13,⟨.deep,3,1,(.bool false)⟩),(12,⟨.deep,317,2,(.bool false)⟩),(11,⟨.deep,3,1,(.bool false)⟩),(10,⟨.deep,3,1,(.bool false)⟩),(9,⟨.deep,3,1,(.bool false)⟩),(8,⟨.deep,317,2,(.bool false)⟩),(7,⟨.deep,3,1,(.bool false)⟩),(6,⟨.deep,3,1,(.bool false)⟩),(5,⟨.deep,3,1,(.bool false)⟩)],17,86,[]⟩,fun K k v=>Qhu_r0 v K (fun x0 x1 x2 x3 x4 x5 x6 x7 x8 x9 x10 x11 x12 x13 x14 x15 x16 x17 x18 x19 x20 x21 x22 x23 x24 x25 x26 x27 x28 x29 x30 x31 x32 x33 x34 x35 x36 x37 x38 x39 x40 x41 x42 x43 x44 x45 x46 x47 x48 x49 x50 x51 x52 x53 x54 x55 x56 x57 x58 x59 x60 x61 x62 x63 x64 x65 x66 x67 x68 x69 x70 x71 x72 x73 x74 x75 x76 x77 x78 x79 x80 x81 x82 x83 x84 x85 x86 x87 x88 x89 x90 x91=>k (.exit 0) ⟨[(0,.one (.pv x0)),(1,.one (.pv x1)),(4,.one (.ptr 0 0)),(5,.one (.pv x2)),(6,.one (.pv x3)),(45,.one (.pv x3)),(46,.one (.pv x1)),(47,.one (.pv x4)),(48,.one (.pv x5)),(51,.one (.pv x0)),(52,.one (.pv x3)),(53,.one (.sptr [x6,x7,x8,x9,x10,x11,x12,x13,x14,x15,x16,x17,x18,x19,x20,x21,x22])),(54,.one (.sptr [x6,x7,x8,x9,x10,x11,x12,x13,x14,x15,x16,x17,x18,x19,x20,x21,x22])),(55,.agg [.pv x6,.pv x7,.pv x8,.pv x9,.pv x10,.pv x11,.pv x12,.pv x13,.pv x14,.pv x15,.pv x16,.pv x17,.pv x18,.pv x19,.pv x20,.pv x21]),(56,.one (.pv x1)),(57,.one (.pv x3)),(58,.one (.sptr [x23,x24,x25,x26,x27,x28,x29,x30,x31,x32,x33,x34,x35,x36,x37,x38,x39])),(59,.one (.sptr [x23,x24,x25,x26,x27,x28,x29,x30,x31,x32,x33,x34,x35,x36,x37,x38,x39])),(60,.agg [.pv x23,.pv x24,.pv x25,.pv x26,.pv x27,.pv x28,.pv x29,.pv x30,.pv x31,.pv x32,.pv x33,.pv x34,.pv x35,.pv x36,.pv x37,.pv x38]),(61,.one (.pv x40))],[(0,[.pv x41,.pv x42,.pv x43,.pv x44,.pv x45,.pv x46,.pv x47,.pv x48,.own 5,.pv x49,.own 6,.pv x50,.pv x51,.own 7,.pv x52,.pv x53,.own 8,.pv x54,.pv x55,.pv x56,.pv x57,.pv x58,.pv x59,.pv x60,.pv x61,.own 9,.pv x62,.own 10,.pv x63,.pv x64,.own 11,.pv x65,.pv x66,.own 12,.pv x67,.pv x68,.pv x69,.pv x70,.pv x71,.pv x72,.pv x73,.pv x74,.own 13,.pv x75,.own 14,.pv x76,.pv x77,.own 15,.pv x78,.pv x79,.own 16])],[(16,⟨.deep,317,2,x80⟩),(15,⟨.deep,3,1,x81⟩),(14,⟨.deep,3,1,x82⟩),(13,⟨.deep,3,1,x83⟩),(12,⟨.deep,317,2,x84⟩),(11,⟨.deep,3,1,x85⟩),(10,⟨.deep,3,1,x86⟩),(9,⟨.deep,3,1,x87⟩),(8,⟨.deep,317,2,x88⟩),(7,⟨.deep,3,1,x89⟩),(6,⟨.deep,3,1,x90⟩),(5,⟨.deep,3,1,x91⟩)],18,86,[]⟩) (fun x0 x1 x2 x3 x4 x5 x6 x7 x8 x9 x10 x11 x12 x13 x14 x15 x16 x17 x18 x19 x20 x21 x22 x23 x24 x25 x26 x27 x28 x29 x30 x31 x32 x33 x34 x35 x36 x37 x38 x39 x40 x41 x42 x43 x44 x45 x46 x47 x48 x49 x50 x51 x52 x53 x54 x55 x56=>k (.exit 0) ⟨[(0,.one (.pv x0)),(1,.one (.pv x1)),(4,.one (.ptr 0 0)),(5,.one (.pv x2)),(6,.one (.pv x3)),(45,.one (.pv x3)),(46,.one (.pv x1)),(47,.one (.pv x4)),(48,.one (.pv x5)),(51,.undef),(52,.undef),(53,.undef),(54,.undef),(55,.undef),(56,.undef),(57,.undef),(58,.undef),(59,.undef),(60,.undef),(61,.undef)],[(0,[.pv x6,.pv x7,.pv x8,.pv x9,.pv x10,.pv x11,.pv x12,.pv x13,.own 5,.pv x14,.own 6,.pv x15,.pv x16,.own 7,.pv x17,.pv x18,.own 8,.pv x19,.pv x20,.pv x21,.pv x22,.pv x23,.pv x24,.pv x25,.pv x26,.own 9,.pv x27,.own 10,.pv x28,.pv x29,.own 11,.pv x30,.pv x31,.own 12,.pv x32,.pv x33,.pv x34,.pv x35,.pv x36,.pv x37,.pv x38,.pv x39,.own 13,.pv x40,.own 14,.pv x41,.pv x42,.own 15,.pv x43,.pv x44,.own 16])],[(16,⟨.deep,317,2,x45⟩),(15,⟨.deep,3,1,x46⟩),(14,⟨.deep,3,1,x47⟩),(13,⟨.deep,3,1,x48⟩),(12,⟨.deep,317,2,x49⟩),(11,⟨.deep,3,1,x50⟩),(10,⟨.deep,3,1,x51⟩),(9,⟨.deep,3,1,x52⟩),(8,⟨.deep,317,2,x53⟩),(7,⟨.deep,3,1,x54⟩),(6,⟨.deep,3,1,x55⟩),(5,⟨.deep,3,1,x56⟩)],17,86,[]⟩) (fun x0 x1 x2 x3 x4 x5 x6 x7 x8 x9 x10 x11 x12 x13 x14 x15 x16 x17 x18 x19 x20 x21 x22 x23 x24 x25 x26 x27 x28 x29 x30 x31 x32 x33 x34 x35 x36 x37 x38 x39 x40 x41 x42 x43 x44 x45 x46 x47 x48 x49 x50 x51 x52 x53 x54=>k (.exit 0) ⟨[(0,.one (.pv x0)),(1,.one (.pv x1)),(4,.one (.ptr 0 0)),(5,.one (.pv x2)),(6,.one (.pv x3)),(45,.undef),(46,.undef),(47,.undef),(48,.undef),(51,.undef),(52,.undef),(53,.undef),(54,.undef),(55,.undef),(56,.undef),(57,.undef),(58,.undef),(59,.undef),(60,.undef),(61,.undef)],[(0,[.pv x4,.pv x5,.pv x6,.pv x7,.pv x8,.pv x9,.pv x10,.pv x11,.own 5,.pv x12,.own 6,.pv x13,.pv x14,.own 7,.pv x15,.pv x16,.own 8,.pv x17,.pv x18,.pv x19,.pv x20,.pv x21,.pv x22,.pv x23,.pv x24,.own 9,.pv x25,.own 10,.pv x26,.pv x27,.own 11,.pv x28,.pv x29,.own 12,.pv x30,.pv x31,.pv x32,.pv x33,.pv x34,.pv x35,.pv x36,.pv x37,.own 13,.pv x38,.own 14,.pv x39,.pv x40,.own 15,.pv x41,.pv x42,.own 16])],[(16,⟨.deep,317,2,x43⟩),(15,⟨.deep,3,1,x44⟩),(14,⟨.deep,3,1,x45⟩),(13,⟨.deep,3,1,x46⟩),(12,⟨.deep,317,2,x47⟩),(11,⟨.deep,3,1,x48⟩),(10,⟨.deep,3,1,x49⟩),(9,⟨.deep,3,1,x50⟩),(8,⟨.deep,317,2,x51⟩),(7,⟨.deep,3,1,x52⟩),(6,⟨.deep,3,1,x53⟩),(5,⟨.deep,3,1,x54⟩)],17,86,[]⟩)⟩]
theorem Qhu_s:xaC [⟨[237],Qcn⟩,⟨[298],Qhs⟩,⟨[299],Qhr⟩,⟨[256],Qbe⟩] TT (kk [0,1,4,5,6,45,46,47,48,51,52,53,54,55,56,57,58,59,60,61,999999]) Qhu_l f241 Qhu_l:=⟨fun v K k h=>by
 apply xab h;(repeat intro _);rename_i h;exact km h
 ,trivial⟩
theorem Qhu_w:EO ⟨[241],Qhu⟩:=oN (ec Qcn_w (ec Qhs_w (ec Qhr_w (ec Qbe_w en)))) (keep:=(kk [0,1,4,5,6,45,46,47,48,51,52,53,54,55,56,57,58,59,60,61,999999])) (l:=Qhu_l) func241 Qhu_s fun av k h=>by
 unfold Qhu at h;split at h
 ·exact km h
 ·exact h.elim
def Qhv:GM
 | [.agg u0,.one a2],k=>un 2 (fun a0 a1 =>
  call Qbh [.agg [a0,a1]] fun o0 =>
  call Qht [.agg [a0,a1],.one a2] fun o1 =>
  xac .eql (atP o1 0) (I 1) fun r2 =>
  xad r2
   (xaH a0 fun r3 =>
   xac .geq r3 (I 8) fun r4 =>
   xad r4
    (rt [.pv,.pv,.sc] [(atP o0 0),(atP o0 1),(I 6)] k)
    (call Qbf [.one a2] fun o5 =>
    (1=1)∧(1≤16777216)∧(1=1)∧(0=0)∧(1=1)∧xbd 1 (atP o0 0) (.list 1 [[(atP o5 0)]]) fun r6 =>
    rt [.pv,.pv,.sc] [r6,(atP o0 1),(atP o1 0)] k))
   (xac .eql (atP o1 0) (I 3) fun r7 =>
   xad r7
    (xaj 17 a2 (I 0) fun c8 =>
    call Qhq [.agg [a0,a1],.one (atP c8 0)] fun o9 =>
    call Qbf [.one a2] fun o10 =>
    xdm 1 (atP o0 0) (atP o9 0) fun n11 =>
    xmu (atP o0 0) n11 0 [(atP o10 0)] fun r12 =>
    rt [.pv,.pv,.sc] [r12,(atP o0 1),(atP o1 0)] k)
    (xac .eql (atP o1 0) (I 5) fun r13 =>
    xad r13
     (xaj 17 a2 (I 0) fun c14 =>
     call Qhq [.agg [a0,a1],.one (atP c14 0)] fun o15 =>
     xaj 1 a0 (atP o15 0) fun c16 =>
     call Qhu [.one (atP c16 0),.one a2] fun o17 =>
     xad (atP o17 51)
      (xaH a1 fun r18 =>
      xac .lss r18 (I 8) fun r19 =>
      xad r19
       ((1=1)∧(51≤16777216)∧(51=51)∧(0=0)∧(51=51)∧xbd 51 (atP o0 1) (.list 51 [(s51 o17)]) fun r20 =>
       rt [.pv,.pv,.sc] [(atP o0 0),r20,(atP o1 0)] k)
       (rt [.pv,.pv,.sc] [(atP o0 0),(atP o0 1),(atP o1 0)] k))
      (rt [.pv,.pv,.sc] [(atP o0 0),(atP o0 1),(atP o1 0)] k))
     (rt [.pv,.pv,.sc] [(atP o0 0),(atP o0 1),(atP o1 0)] k)))) u0
 | _,_=>False
theorem Qhv_w:EO ⟨[172],Qhv⟩:=oNz (ec Qbh_w (ec Qht_w (ec Qbf_w (ec Qhq_w (ec Qhu_w en))))) func172 fun av k h=>by
 unfold Qhv at h;split at h
 ·apply xab h;clear h;intro a0 a1 h;exact km h
 ·exact h.elim
def Qhw:GM
 | [.agg u0,.one a16],k=>un 16 (fun a0 a1 a2 a3 a4 a5 a6 a7 a8 a9 a10 a11 a12 a13 a14 a15 =>
  call Qbo [.one a16,.one a3,.one a4] fun o0 =>
  rt [.sc] [(atP o0 0)] k) u0
 | _,_=>False
theorem Qhw_w:EO ⟨[242],Qhw⟩:=oNz (ec Qbo_w en) func242 fun av k h=>by
 unfold Qhw at h;split at h
 ·apply xab h;clear h;(repeat intro _);rename_i h;exact km h
 ·exact h.elim
def Qhx_r0 (v:List PV) (K:List PV→Prop) (x0k:Prop) (x1k:Cur 7):Prop :=
 un 7 (fun v0 v1 v2 v3 v4 v5 v6 =>
  xac .gtr v2 (I 1) fun r0 =>
  xad r0
   (xac .rem v1 (I 2) fun r1 =>
   xac .eql r1 (I 1) fun r2 =>
   xad r2
    (xaH v3 fun r3 =>
    xac .geq v6 r3 fun r4 =>
    xad r4
     (x0k)
     (xac .rem v1 (I 2) fun r5 =>
     xac .eql r5 (I 1) fun r6 =>
     xad r6
      (xaj 1 v3 v6 fun c7 =>
      call Qcz [.one (atP c7 0),.one v0] fun o8 =>
      xac .add v6 (I 1) fun r9 =>
      xac .quo v1 (I 2) fun r10 =>
      xac .add v2 (I 1) fun r11 =>
      xac .quo r11 (I 2) fun r12 =>
      K [(atP o8 0),r10,r12,v3,v4,v5,r9])
      (xaj 1 v3 v6 fun c13 =>
      call Qcz [.one v0,.one (atP c13 0)] fun o14 =>
      xac .add v6 (I 1) fun r15 =>
      xac .quo v1 (I 2) fun r16 =>
      xac .add v2 (I 1) fun r17 =>
      xac .quo r17 (I 2) fun r18 =>
      K [(atP o14 0),r16,r18,v3,v4,v5,r15])))
    (xac .add v1 (I 1) fun r19 =>
    xac .lss r19 v2 fun r20 =>
    xad r20
     (xaH v3 fun r21 =>
     xac .geq v6 r21 fun r22 =>
     xad r22
      (x0k)
      (xac .rem v1 (I 2) fun r23 =>
      xac .eql r23 (I 1) fun r24 =>
      xad r24
       (xaj 1 v3 v6 fun c25 =>
       call Qcz [.one (atP c25 0),.one v0] fun o26 =>
       xac .add v6 (I 1) fun r27 =>
       xac .quo v1 (I 2) fun r28 =>
       xac .add v2 (I 1) fun r29 =>
       xac .quo r29 (I 2) fun r30 =>
       K [(atP o26 0),r28,r30,v3,v4,v5,r27])
       (xaj 1 v3 v6 fun c31 =>
       call Qcz [.one v0,.one (atP c31 0)] fun o32 =>
       xac .add v6 (I 1) fun r33 =>
       xac .quo v1 (I 2) fun r34 =>
       xac .add v2 (I 1) fun r35 =>
       xac .quo r35 (I 2) fun r36 =>
       K [(atP o32 0),r34,r36,v3,v4,v5,r33])))
     (xac .quo v1 (I 2) fun r37 =>
     xac .add v2 (I 1) fun r38 =>
     xac .quo r38 (I 2) fun r39 =>
     K [v0,r37,r39,v3,v4,v5,v6])))
   (x1k v0 v1 v2 v3 v4 v5 v6)) v
def Qhx:GM
 | [.one a0,.one a1,.one a2,.one a3],k =>
  call Qbo [.one a2,.one (I 1),.one (I 12)] fun o0 =>
  unP .not (atP o0 0) fun r1 =>
  xad r1
   (rt [.sc,.sc] [(I 0),(.bool false)] k)
   (xac .sub a2 (I 1) fun r2 =>
   call Qbo [.one a1,.one (I 0),.one r2] fun o3 =>
   unP .not (atP o3 0) fun r4 =>
   xad r4
    (rt [.sc,.sc] [(I 0),(.bool false)] k)
    (lp (fun L w=>Qhx_r0 w L
     (rt [.sc,.sc] [(I 0),(.bool false)] k)
     (fun q40 q41 q42 q43 q44 q45 q46=>xaH q43 fun r47 =>
      xac .neq q46 r47 fun r48 =>
      xad r48
       (rt [.sc,.sc] [(I 0),(.bool false)] k)
       (rt [.sc,.sc] [q40,(.bool true)] k))) [a0,a1,a2,a3,(I 0),(.bool false),(I 0)]))
 | _,_=>False
def Qhx_l:List LE:=[⟨none,0,⟨[(0,.one zB),(1,.one zB),(2,.one zB),(3,.one zB),(8,.one zB),(9,.one zB),(10,.one zB)],[],[],2,63,[]⟩,fun K k v=>Qhx_r0 v K (k .ret ⟨[(8,.one (.pv (I 0))),(9,.one (.kb false))],[],[],2,63,[]⟩) (fun x0 x1 x2 x3 x4 x5 x6=>k (.exit 0) ⟨[(0,.one (.pv x0)),(1,.one (.pv x1)),(2,.one (.pv x2)),(3,.one (.pv x3)),(8,.one (.pv x4)),(9,.one (.pv x5)),(10,.one (.pv x6))],[],[],2,63,[]⟩)⟩]
theorem Qhx_s:xaC [⟨[133],Qbo⟩,⟨[398],Qcz⟩] TT (kk [0,1,2,3,8,9,10,27,28,29,30,999999]) Qhx_l f351 Qhx_l:=⟨fun v K k h=>by
 apply xab h;exact fun v0 v1 v2 v3 v4 v5 v6 h=>km h
 ,trivial⟩
theorem Qhx_w:EO ⟨[351],Qhx⟩:=oN (ec Qbo_w (ec Qcz_w en)) (keep:=(kk [0,1,2,3,8,9,10,27,28,29,30,999999])) (l:=Qhx_l) func351 Qhx_s fun av k h=>by
 unfold Qhx at h;split at h
 ·exact km h
 ·exact h.elim
def Qhy:GM
 | [.one a0,.one a1,.agg u0,.agg u1],k=>un 4 (fun a2 a3 a4 a5=>un 2 (fun a6 a7 =>
  call Qcx [.agg [a2,a3,a4,a5]] fun o0 =>
  call Qhx [.one (atP o0 0),.one a6,.one a1,.one a7] fun o1 =>
  call Qcr [.agg [a2,a3,a4,a5]] fun o2 =>
  xad (atP o2 0)
   (xad (atP o1 1)
    (call Qdc [.one a1,.one (atP o1 0)] fun o3 =>
    xac .eql (atP o3 0) a0 fun r4 =>
    rt [.sc] [r4] k)
    (rt [.sc] [(.bool false)] k))
   (rt [.sc] [(.bool false)] k)) u1) u0
 | _,_=>False
theorem Qhy_w:EO ⟨[300],Qhy⟩:=oNz (ec Qcx_w (ec Qhx_w (ec Qcr_w (ec Qdc_w en)))) func300 fun av k h=>by
 unfold Qhy at h;split at h
 ·apply xab h;clear h;intro a2 a3 a4 a5 h;apply xab h;clear h;intro a6 a7 h;exact km h
 ·exact h.elim
def Qhz_r0 (v:List PV) (K:List PV→Prop) (x0k:Prop) (x1k:Cur 4):Prop :=
 un 4 (fun v0 v1 v2 v3 =>
  xaH v0 fun r0 =>
  xac .lss v3 r0 fun r1 =>
  xad r1
   (xaj 1 v0 v3 fun c2 =>
   xaj 1 v1 v3 fun c3 =>
   xac .neq (atP c2 0) (atP c3 0) fun r4 =>
   xad r4
    (x0k)
    (xac .add v3 (I 1) fun r5 =>
    K [v0,v1,v2,r5]))
   (x1k v0 v1 v2 v3)) v
def Qhz:GM
 | [.one a0,.one a1],k =>
  xaH a0 fun r0 =>
  xaH a1 fun r1 =>
  xac .neq r0 r1 fun r2 =>
  xad r2
   (rt [.sc] [(.bool false)] k)
   (lp (fun L w=>Qhz_r0 w L
    (rt [.sc] [(.bool false)] k)
    (fun q6 q7 q8 q9=>rt [.sc] [(.bool true)] k)) [a0,a1,(.bool false),(I 0)])
 | _,_=>False
def Qhz_l:List LE:=[⟨none,0,⟨[(0,.one zB),(1,.one zB),(4,.one zB),(5,.one zB)],[],[],0,26,[]⟩,fun K k v=>Qhz_r0 v K (k .ret ⟨[(4,.one (.kb false))],[],[],0,26,[]⟩) (fun x0 x1 x2 x3=>k (.exit 0) ⟨[(0,.one (.pv x0)),(1,.one (.pv x1)),(4,.one (.pv x2)),(5,.one (.pv x3))],[],[],0,26,[]⟩)⟩]
theorem Qhz_s:xaC [] TT (kk [0,1,4,5,999999]) Qhz_l f400 Qhz_l:=⟨fun v K k h=>by
 apply xab h;exact fun v0 v1 v2 v3 h=>km h
 ,trivial⟩
theorem Qhz_w:EO ⟨[400],Qhz⟩:=oN en (keep:=(kk [0,1,4,5,999999])) (l:=Qhz_l) func400 Qhz_s fun av k h=>by
 unfold Qhz at h;split at h
 ·exact km h
 ·exact h.elim
def Qia:GM
 | [.agg u0,.agg u1],k=>un 4 (fun a0 a1 a2 a3=>un 4 (fun a4 a5 a6 a7 =>
  xac .eql a0 a4 fun r0 =>
  xad r0
   (xac .eql a1 a5 fun r1 =>
   xad r1
    (xac .eql a2 a6 fun r2 =>
    xad r2
     (call Qhz [.one a3,.one a7] fun o3 =>
     rt [.sc] [(atP o3 0)] k)
     (rt [.sc] [(.bool false)] k))
    (rt [.sc] [(.bool false)] k))
   (rt [.sc] [(.bool false)] k)) u1) u0
 | _,_=>False
theorem Qia_w:EO ⟨[353],Qia⟩:=oNz (ec Qhz_w en) func353 fun av k h=>by
 unfold Qia at h;split at h
 ·apply xab h;clear h;intro a0 a1 a2 a3 h;apply xab h;clear h;intro a4 a5 a6 a7 h;exact km h
 ·exact h.elim
def Qib:GM
 | [.agg u0,.agg u1],k=>un 2 (fun a0 a1=>un 2 (fun a2 a3 =>
  xac .eql a0 a2 fun r0 =>
  xad r0
   (call Qcf [.one a1,.one a3] fun o1 =>
   rt [.sc] [(atP o1 0)] k)
   (rt [.sc] [(.bool false)] k)) u1) u0
 | _,_=>False
theorem Qib_w:EO ⟨[354],Qib⟩:=oNz (ec Qcf_w en) func354 fun av k h=>by
 unfold Qib at h;split at h
 ·apply xab h;clear h;intro a0 a1 h;apply xab h;clear h;intro a2 a3 h;exact km h
 ·exact h.elim
def Qic:GM
 | [.agg u0,.agg u1],k=>un 13 (fun a0 a1 a2 a3 a4 a5 a6 a7 a8 a9 a10 a11 a12=>un 13 (fun a13 a14 a15 a16 a17 a18 a19 a20 a21 a22 a23 a24 a25 =>
  xac .eql a0 a13 fun r0 =>
  xad r0
   (call Qia [.agg [a1,a2,a3,a4],.agg [a14,a15,a16,a17]] fun o1 =>
   xad (atP o1 0)
    (call Qia [.agg [a5,a6,a7,a8],.agg [a18,a19,a20,a21]] fun o2 =>
    xad (atP o2 0)
     (call Qib [.agg [a9,a10],.agg [a22,a23]] fun o3 =>
     xad (atP o3 0)
      (call Qib [.agg [a11,a12],.agg [a24,a25]] fun o4 =>
      rt [.sc] [(atP o4 0)] k)
      (rt [.sc] [(.bool false)] k))
     (rt [.sc] [(.bool false)] k))
    (rt [.sc] [(.bool false)] k))
   (rt [.sc] [(.bool false)] k)) u1) u0
 | _,_=>False
theorem Qic_w:EO ⟨[301],Qic⟩:=oNz (ec Qia_w (ec Qib_w en)) func301 fun av k h=>by
 unfold Qic at h;split at h
 ·apply xab h;clear h;(repeat intro _);rename_i h;apply xab h;clear h;(repeat intro _);rename_i h;exact km h
 ·exact h.elim
def Qid:GM
 | [.agg u0,.agg u1],k=>un 4 (fun a0 a1 a2 a3=>un 2 (fun a4 a5 =>
  call Qia [.agg [a0,a1,a2,a3],.agg [(.str ⟨#[]⟩),(I 0),(I 0),(.list 1 [])]] fun o0 =>
  xad (atP o0 0)
   (call Qib [.agg [a4,a5],.agg [(I 0),(.list 1 [])]] fun o1 =>
   rt [.sc] [(atP o1 0)] k)
   (rt [.sc] [(.bool false)] k)) u1) u0
 | _,_=>False
theorem Qid_w:EO ⟨[303],Qid⟩:=oNz (ec Qia_w (ec Qib_w en)) func303 fun av k h=>by
 unfold Qid at h;split at h
 ·apply xab h;clear h;intro a0 a1 a2 a3 h;apply xab h;clear h;intro a4 a5 h;exact km h
 ·exact h.elim
def Qie:GM
 | [.one a0,.one a1,.one a2,.agg u0],k=>un 13 (fun a3 a4 a5 a6 a7 a8 a9 a10 a11 a12 a13 a14 a15 =>
  let F1:=xac .eql a3 a1 fun r10 =>
   xad r10
   (call Qid [.agg [a8,a9,a10,a11],.agg [a14,a15]] fun o11 =>
   rt [.sc] [(atP o11 0)] k)
   (call Qhy [.one a0,.one a1,.agg [a8,a9,a10,a11],.agg [a14,a15]] fun o12 =>
   xad (atP o12 0)
   (xac .eql a14 a3 fun r13 =>
   xad r13
   (call Qcs [.one a8,.one a2] fun o14 =>
   xac .eql (atP o14 0) (I 1) fun r15 =>
   rt [.sc] [r15] k)
   (rt [.sc] [(.bool false)] k))
   (rt [.sc] [(.bool false)] k))
  let F0:=xac .eql a3 (I 0) fun r7 =>
   xad r7
   (call Qid [.agg [a4,a5,a6,a7],.agg [a12,a13]] fun o8 =>
   unP .not (atP o8 0) fun r9 =>
   xad r9
   (rt [.sc] [(.bool false)] k)
   (F1))
   (call Qhy [.one a0,.one a1,.agg [a4,a5,a6,a7],.agg [a12,a13]] fun o16 =>
   unP .not (atP o16 0) fun r17 =>
   xad r17
   (rt [.sc] [(.bool false)] k)
   (xac .sub a3 (I 1) fun r18 =>
   xac .neq a12 r18 fun r19 =>
   xad r19
   (rt [.sc] [(.bool false)] k)
   (call Qcs [.one a4,.one a2] fun o20 =>
   xac .neq (atP o20 0) (I (-1)) fun r21 =>
   xad r21
   (rt [.sc] [(.bool false)] k)
   (F1))))
  call Qcp [.one a2] fun o0 =>
  unP .not (atP o0 0) fun r1 =>
  xad r1
   (rt [.sc] [(.bool false)] k)
   (call Qbo [.one a3,.one (I 0),.one a1] fun o2 =>
   unP .not (atP o2 0) fun r3 =>
   xad r3
    (rt [.sc] [(.bool false)] k)
    (xac .eql a1 (I 0) fun r4 =>
    xad r4
     ((0=0)∧(0≤16777216)∧(4=4)∧call Qdd [.one (.list 4 [])] fun o5 =>
     xac .neq a0 (atP o5 0) fun r6 =>
     xad r6
      (rt [.sc] [(.bool false)] k)
      (F0))
     (F0)))) u0
 | _,_=>False
theorem Qie_w:EO ⟨[302],Qie⟩:=oNz (ec Qcp_w (ec Qbo_w (ec Qdd_w (ec Qid_w (ec Qhy_w (ec Qcs_w en)))))) func302 fun av k h=>by
 unfold Qie at h;split at h
 ·apply xab h;clear h;(repeat intro _);rename_i h;exact km h
 ·exact h.elim
def Qif:GM
 | [.agg u0,.one a16,.agg u1],k=>un 16 (fun a0 a1 a2 a3 a4 a5 a6 a7 a8 a9 a10 a11 a12 a13 a14 a15=>un 21 (fun a17 a18 a19 a20 a21 a22 a23 a24 a25 a26 a27 a28 a29 a30 a31 a32 a33 a34 a35 a36 a37 =>
  xad a18
   (xac .eql a19 a16 fun r0 =>
   xad r0
    (call Qhy [.one a6,.one a5,.agg [a19,a20,a21,a22],.agg [a23,a24]] fun o1 =>
    xad (atP o1 0)
     (call Qic [.agg [a25,a26,a27,a28,a29,a30,a31,a32,a33,a34,a35,a36,a37],.agg [(I 0),(.str ⟨#[]⟩),(I 0),(I 0),(.list 1 []),(.str ⟨#[]⟩),(I 0),(I 0),(.list 1 []),(I 0),(.list 1 []),(I 0),(.list 1 [])]] fun o2 =>
     rt [.sc] [(atP o2 0)] k)
     (rt [.sc] [(.bool false)] k))
    (rt [.sc] [(.bool false)] k))
   (call Qie [.one a6,.one a5,.one a16,.agg [a25,a26,a27,a28,a29,a30,a31,a32,a33,a34,a35,a36,a37]] fun o3 =>
   xad (atP o3 0)
    (call Qid [.agg [a19,a20,a21,a22],.agg [a23,a24]] fun o4 =>
    rt [.sc] [(atP o4 0)] k)
    (rt [.sc] [(.bool false)] k))) u1) u0
 | _,_=>False
theorem Qif_w:EO ⟨[243],Qif⟩:=oNz (ec Qhy_w (ec Qic_w (ec Qie_w (ec Qid_w en)))) func243 fun av k h=>by
 unfold Qif at h;split at h
 ·apply xab h;clear h;(repeat intro _);rename_i h;apply xab h;clear h;(repeat intro _);rename_i h;exact km h
 ·exact h.elim
def Qig:GM
 | [.one a0,.one a1,.agg u0,.one a23],k=>un 21 (fun a2 a3 a4 a5 a6 a7 a8 a9 a10 a11 a12 a13 a14 a15 a16 a17 a18 a19 a20 a21 a22 =>
  call Qco [.one a2] fun o0 =>
  unP .not (atP o0 16) fun r1 =>
  xad r1
   (rt [.sc] [(I 3)] k)
   (xac .neq (atP o0 0) a0 fun r2 =>
   xad r2
    (rt [.sc] [(I 2)] k)
    (call Qhw [.agg [(atP o0 0),(atP o0 1),(atP o0 2),(atP o0 3),(atP o0 4),(atP o0 5),(atP o0 6),(atP o0 7),(atP o0 8),(atP o0 9),(atP o0 10),(atP o0 11),(atP o0 12),(atP o0 13),(atP o0 14),(atP o0 15)],.one a23] fun o3 =>
    unP .not (atP o3 0) fun r4 =>
    xad r4
     (rt [.sc] [(I 4)] k)
     (xad (atP o0 15)
      (rt [.sc] [(I 5)] k)
      (call Qif [.agg [(atP o0 0),(atP o0 1),(atP o0 2),(atP o0 3),(atP o0 4),(atP o0 5),(atP o0 6),(atP o0 7),(atP o0 8),(atP o0 9),(atP o0 10),(atP o0 11),(atP o0 12),(atP o0 13),(atP o0 14),(atP o0 15)],.one a1,.agg [a2,a3,a4,a5,a6,a7,a8,a9,a10,a11,a12,a13,a14,a15,a16,a17,a18,a19,a20,a21,a22]] fun o5 =>
      unP .not (atP o5 0) fun r6 =>
      xad r6
       (rt [.sc] [(I 6)] k)
       (rt [.sc] [(I 1)] k)))))) u0
 | _,_=>False
theorem Qig_w:EO ⟨[173],Qig⟩:=oNz (ec Qco_w (ec Qhw_w (ec Qif_w en))) func173 fun av k h=>by
 unfold Qig at h;split at h
 ·apply xab h;clear h;(repeat intro _);rename_i h;exact km h
 ·exact h.elim
def Qih_r0 (v:List PV) (K:List PV→Prop) (x0k:Prop) (x1k:Cur 36):Prop :=
 un 36 (fun v0 v1 v2 v3 v4 v5 v6 v7 v8 v9 v10 v11 v12 v13 v14 v15 v16 v17 v18 v19 v20 v21 v22 v23 v24 v25 v26 v27 v28 v29 v30 v31 v32 v33 v34 v35 =>
  xaH v35 fun r0 =>
  xac .lss v1 r0 fun r1 =>
  xad r1
   (xaj 2 v35 v1 fun c2 =>
   xaj 2 v18 v1 fun c3 =>
   (xeh [.pv (I 0),.pv (I 0)] [(atP c2 0),(atP c2 1)])∧(xeh [.pv (I 0),.pv (I 0)] [(atP c3 0),(atP c3 1)])∧xsc .neq [(atP c2 0),(atP c2 1)] [(atP c3 0),(atP c3 1)] fun r4 =>
   xad r4
    (x0k)
    (xac .add v1 (I 1) fun r5 =>
    K [v0,r5,v2,v3,v4,v5,v6,v7,v8,v9,v10,v11,v12,v13,v14,v15,v16,v17,v18,v19,v20,v21,v22,v23,v24,v25,v26,v27,v28,v29,v30,v31,v32,v33,v34,v35]))
   (x1k v0 v1 v2 v3 v4 v5 v6 v7 v8 v9 v10 v11 v12 v13 v14 v15 v16 v17 v18 v19 v20 v21 v22 v23 v24 v25 v26 v27 v28 v29 v30 v31 v32 v33 v34 v35)) v
def Qih:GM
 | [.agg u0,.agg u1],k=>un 17 (fun a0 a1 a2 a3 a4 a5 a6 a7 a8 a9 a10 a11 a12 a13 a14 a15 a16=>un 17 (fun a17 a18 a19 a20 a21 a22 a23 a24 a25 a26 a27 a28 a29 a30 a31 a32 a33 =>
  call Qhr [.agg [a0,a1,a2,a3,a4,a5,a6,a7,a8,a9,a10,a11,a12,a13,a14,a15],.agg [a17,a18,a19,a20,a21,a22,a23,a24,a25,a26,a27,a28,a29,a30,a31,a32]] fun o0 =>
  unP .not (atP o0 0) fun r1 =>
  xad r1
   (rt [.sc] [(.bool false)] k)
   (xaH a16 fun r2 =>
   xaH a33 fun r3 =>
   xac .neq r2 r3 fun r4 =>
   xad r4
    (rt [.sc] [(.bool false)] k)
    (lp (fun L w=>Qih_r0 w L
     (rt [.sc] [(.bool false)] k)
     (fun q6 q7 q8 q9 q10 q11 q12 q13 q14 q15 q16 q17 q18 q19 q20 q21 q22 q23 q24 q25 q26 q27 q28 q29 q30 q31 q32 q33 q34 q35 q36 q37 q38 q39 q40 q41=>rt [.sc] [(.bool true)] k)) [(.bool false),(I 0),a17,a18,a19,a20,a21,a22,a23,a24,a25,a26,a27,a28,a29,a30,a31,a32,a33,a0,a1,a2,a3,a4,a5,a6,a7,a8,a9,a10,a11,a12,a13,a14,a15,a16]))) u1) u0
 | _,_=>False
def Qih_l:List LE:=[⟨none,0,⟨[(2,.one (.ptr 0 0)),(3,.one (.ptr 1 0)),(4,.one zB),(5,.one zB)],[(1,[zB,zB,zB,zB,zB,zB,zB,zB,zB,zB,zB,zB,zB,zB,zB,zB,zB]),(0,[zB,zB,zB,zB,zB,zB,zB,zB,zB,zB,zB,zB,zB,zB,zB,zB,zB])],[],3,39,[]⟩,fun K k v=>Qih_r0 v K (k .ret ⟨[(4,.one (.kb false))],[],[],3,39,[]⟩) (fun x0 x1 x2 x3 x4 x5 x6 x7 x8 x9 x10 x11 x12 x13 x14 x15 x16 x17 x18 x19 x20 x21 x22 x23 x24 x25 x26 x27 x28 x29 x30 x31 x32 x33 x34 x35=>k (.exit 0) ⟨[(2,.one (.ptr 0 0)),(3,.one (.ptr 1 0)),(4,.one (.pv x0)),(5,.one (.pv x1))],[(1,[.pv x2,.pv x3,.pv x4,.pv x5,.pv x6,.pv x7,.pv x8,.pv x9,.pv x10,.pv x11,.pv x12,.pv x13,.pv x14,.pv x15,.pv x16,.pv x17,.pv x18]),(0,[.pv x19,.pv x20,.pv x21,.pv x22,.pv x23,.pv x24,.pv x25,.pv x26,.pv x27,.pv x28,.pv x29,.pv x30,.pv x31,.pv x32,.pv x33,.pv x34,.pv x35])],[],3,39,[]⟩)⟩]
theorem Qih_s:xaC [⟨[299],Qhr⟩] TT (kk [2,3,4,5,999999]) Qih_l f355 Qih_l:=⟨fun v K k h=>by
 apply xab h;(repeat intro _);rename_i h;exact km h
 ,trivial⟩
theorem Qih_w:EO ⟨[355],Qih⟩:=oN (ec Qhr_w en) (keep:=(kk [2,3,4,5,999999])) (l:=Qih_l) func355 Qih_s fun av k h=>by
 unfold Qih at h;split at h
 ·apply xab h;clear h;(repeat intro _);rename_i h;apply xab h;clear h;(repeat intro _);rename_i h;exact km h
 ·exact h.elim
def Qii:GM
 | [.agg u0],k=>un 51 (fun a0 a1 a2 a3 a4 a5 a6 a7 a8 a9 a10 a11 a12 a13 a14 a15 a16 a17 a18 a19 a20 a21 a22 a23 a24 a25 a26 a27 a28 a29 a30 a31 a32 a33 a34 a35 a36 a37 a38 a39 a40 a41 a42 a43 a44 a45 a46 a47 a48 a49 a50 =>
  call Qhr [.agg [a17,a18,a19,a20,a21,a22,a23,a24,a25,a26,a27,a28,a29,a30,a31,a32],.agg [a34,a35,a36,a37,a38,a39,a40,a41,a42,a43,a44,a45,a46,a47,a48,a49]] fun o0 =>
  xad (atP o0 0)
   (rt [.sc] [(.bool false)] k)
   (call Qih [.agg [a0,a1,a2,a3,a4,a5,a6,a7,a8,a9,a10,a11,a12,a13,a14,a15,a16],.agg [(I 0),(I 0),(I 0),(I 0),(I 0),(I 0),(I 0),(I 0),(.list 1 []),(I 0),(.list 1 []),(I 0),(I 0),(.list 1 []),(I 0),(.bool false),(.list 2 [])]] fun o1 =>
   xad (atP o1 0)
    (call Qcc [.agg [a17,a18,a19,a20,a21,a22,a23,a24,a25,a26,a27,a28,a29,a30,a31,a32,a33]] fun o2 =>
    xad (atP o2 0)
     (call Qcc [.agg [a34,a35,a36,a37,a38,a39,a40,a41,a42,a43,a44,a45,a46,a47,a48,a49,a50]] fun o3 =>
     xad (atP o3 0)
      (xac .eql a17 a34 fun r4 =>
      rt [.sc] [r4] k)
      (rt [.sc] [(.bool false)] k))
     (rt [.sc] [(.bool false)] k))
    (call Qcl [.agg [a0,a1,a2,a3,a4,a5,a6,a7,a8,a9,a10,a11,a12,a13,a14,a15],.agg [a17,a18,a19,a20,a21,a22,a23,a24,a25,a26,a27,a28,a29,a30,a31,a32,a33]] fun o5 =>
    xad (atP o5 0)
     (call Qcl [.agg [a0,a1,a2,a3,a4,a5,a6,a7,a8,a9,a10,a11,a12,a13,a14,a15],.agg [a34,a35,a36,a37,a38,a39,a40,a41,a42,a43,a44,a45,a46,a47,a48,a49,a50]] fun o6 =>
     rt [.sc] [(atP o6 0)] k)
     (rt [.sc] [(.bool false)] k)))) u0
 | _,_=>False
theorem Qii_w:EO ⟨[304],Qii⟩:=oNz (ec Qhr_w (ec Qih_w (ec Qcc_w (ec Qcl_w en)))) func304 fun av k h=>by
 unfold Qii at h;split at h
 ·apply xab h;clear h;(repeat intro _);rename_i h;exact km h
 ·exact h.elim
def Qij:GM
 | [.agg u0],k=>un 51 (fun a0 a1 a2 a3 a4 a5 a6 a7 a8 a9 a10 a11 a12 a13 a14 a15 a16 a17 a18 a19 a20 a21 a22 a23 a24 a25 a26 a27 a28 a29 a30 a31 a32 a33 a34 a35 a36 a37 a38 a39 a40 a41 a42 a43 a44 a45 a46 a47 a48 a49 a50 =>
  call Qii [.agg [a0,a1,a2,a3,a4,a5,a6,a7,a8,a9,a10,a11,a12,a13,a14,a15,a16,a17,a18,a19,a20,a21,a22,a23,a24,a25,a26,a27,a28,a29,a30,a31,a32,a33,a34,a35,a36,a37,a38,a39,a40,a41,a42,a43,a44,a45,a46,a47,a48,a49,a50]] fun o0 =>
  unP .not (atP o0 0) fun r1 =>
  xad r1
   (rt [.sc] [(I (-1))] k)
   (rt [.sc] [a17] k)) u0
 | _,_=>False
theorem Qij_w:EO ⟨[244],Qij⟩:=oNz (ec Qii_w en) func244 fun av k h=>by
 unfold Qij at h;split at h
 ·apply xab h;clear h;(repeat intro _);rename_i h;exact km h
 ·exact h.elim
def Qik_r0 (v:List PV) (K:List PV→Prop) (x0k:Prop) (x1k:Cur 5):Prop :=
 un 5 (fun v0 v1 v2 v3 v4 =>
  xaH v4 fun r0 =>
  xac .lss v2 r0 fun r1 =>
  xad r1
   (xaj 51 v4 v2 fun c2 =>
   call Qij [.agg [(atP c2 0),(atP c2 1),(atP c2 2),(atP c2 3),(atP c2 4),(atP c2 5),(atP c2 6),(atP c2 7),(atP c2 8),(atP c2 9),(atP c2 10),(atP c2 11),(atP c2 12),(atP c2 13),(atP c2 14),(atP c2 15),(atP c2 16),(atP c2 17),(atP c2 18),(atP c2 19),(atP c2 20),(atP c2 21),(atP c2 22),(atP c2 23),(atP c2 24),(atP c2 25),(atP c2 26),(atP c2 27),(atP c2 28),(atP c2 29),(atP c2 30),(atP c2 31),(atP c2 32),(atP c2 33),(atP c2 34),(atP c2 35),(atP c2 36),(atP c2 37),(atP c2 38),(atP c2 39),(atP c2 40),(atP c2 41),(atP c2 42),(atP c2 43),(atP c2 44),(atP c2 45),(atP c2 46),(atP c2 47),(atP c2 48),(atP c2 49),(atP c2 50)]] fun o3 =>
   xac .eql (atP o3 0) v0 fun r4 =>
   xad r4
    (xac .geq v0 (I 0) fun r5 =>
    xad r5
     (x0k)
     (xac .add v2 (I 1) fun r6 =>
     K [v0,v1,r6,v3,v4]))
    (xac .add v2 (I 1) fun r7 =>
    K [v0,v1,r7,v3,v4]))
   (x1k v0 v1 v2 v3 v4)) v
def Qik:GM
 | [.agg u0,.one a2],k=>un 2 (fun a0 a1 =>
  lp (fun L w=>Qik_r0 w L
   (rt [.sc] [(.bool true)] k)
   (fun q8 q9 q10 q11 q12=>rt [.sc] [(.bool false)] k)) [a2,(.bool false),(I 0),a0,a1]) u0
 | _,_=>False
def Qik_l:List LE:=[⟨none,0,⟨[(1,.one zB),(2,.one (.ptr 0 0)),(4,.one zB),(5,.one zB)],[(0,[zB,zB])],[],1,25,[]⟩,fun K k v=>Qik_r0 v K (k .ret ⟨[(4,.one (.kb true))],[],[],2,25,[]⟩) (fun x0 x1 x2 x3 x4=>k (.exit 0) ⟨[(1,.one (.pv x0)),(2,.one (.ptr 0 0)),(4,.one (.pv x1)),(5,.one (.pv x2))],[(0,[.pv x3,.pv x4])],[],1,25,[]⟩)⟩]
theorem Qik_s:xaC [⟨[244],Qij⟩] TT (kk [1,2,4,5,22,23,999999]) Qik_l f174 Qik_l:=⟨fun v K k h=>by
 apply xab h;exact fun v0 v1 v2 v3 v4 h=>km h
 ,trivial⟩
theorem Qik_w:EO ⟨[174],Qik⟩:=oN (ec Qij_w en) (keep:=(kk [1,2,4,5,22,23,999999])) (l:=Qik_l) func174 Qik_s fun av k h=>by
 unfold Qik at h;split at h
 ·apply xab h;clear h;intro a0 a1 h;exact km h
 ·exact h.elim
def Qil_r0 (v:List PV) (K:List PV→Prop) (x0k:Cur 17) (x1k:Cur 17) (x2k:Cur 17) (x3k:Cur 17) (x4k:Cur 23):Prop :=
 un 23 (fun v0 v1 v2 v3 v4 v5 v6 v7 v8 v9 v10 v11 v12 v13 v14 v15 v16 v17 v18 v19 v20 v21 v22 =>
  let F9:=fun (c2:List PV) (r61:PV)=>call Qbj [.agg [(atP c2 2),(atP c2 3),(atP c2 4),(atP c2 5)]] fun o63 =>
   x2k v5 v6 (atP c2 1) (atP o63 0) (atP o63 1) (atP o63 2) (atP o63 3) v13 v14 v15 v16 v17 v18 v19 v20 r61 v21
  let F2:=fun (c2:List PV) (o57:List PV)=>call Qik [.agg [v5,v6],.one v1] fun o60 =>
   xad (atP o60 0)
   ((1=1)∧(1≤16777216)∧(1=1)∧(0=0)∧(1=1)∧(xae [.pv (I 0)] [.pv (I 3)])∧xbd 1 v22 (.list 1 [[(I 3)]]) fun r61 =>
   xac .eql (I 3) (I 1) fun r62 =>
   xad r62
   (F9 c2 r61)
   (xac .add v4 (I 1) fun r64 =>
   K [v0,v1,v2,v3,r64,v5,v6,v7,v8,v9,v10,v11,v12,v13,v14,v15,v16,v17,v18,v19,v20,v21,r61]))
   ((1=1)∧(1≤16777216)∧(1=1)∧(0=0)∧(1=1)∧(xae [.pv (I 0)] [.pv (atP o57 0)])∧xbd 1 v22 (.list 1 [[(atP o57 0)]]) fun r65 =>
   xac .eql (atP o57 0) (I 1) fun r66 =>
   xad r66
   (F9 c2 r65)
   (xac .add v4 (I 1) fun r68 =>
   K [v0,v1,v2,v3,r68,v5,v6,v7,v8,v9,v10,v11,v12,v13,v14,v15,v16,v17,v18,v19,v20,v21,r65]))
  let F7:=fun (c2:List PV) (r91:PV)=>call Qbj [.agg [(atP c2 2),(atP c2 3),(atP c2 4),(atP c2 5)]] fun o93 =>
   x3k v5 v6 (atP c2 1) (atP o93 0) (atP o93 1) (atP o93 2) (atP o93 3) v13 v14 v15 v16 v17 v18 v19 v20 r91 v21
  let F4:=fun (o57:List PV) (c2:List PV)=>(1=1)∧(1≤16777216)∧(1=1)∧(0=0)∧(1=1)∧(xae [.pv (I 0)] [.pv (atP o57 0)])∧xbd 1 v22 (.list 1 [[(atP o57 0)]]) fun r69 =>
   xac .eql (atP o57 0) (I 1) fun r70 =>
   xad r70
   (F7 c2 r69)
   (xac .add v4 (I 1) fun r72 =>
   K [v0,v1,v2,v3,r72,v5,v6,v7,v8,v9,v10,v11,v12,v13,v14,v15,v16,v17,v18,v19,v20,v21,r69])
  let F0:=fun (c2:List PV)=>call Qig [.one v1,.one v2,.agg [(atP c2 0),(atP c2 1),(atP c2 2),(atP c2 3),(atP c2 4),(atP c2 5),(atP c2 6),(atP c2 7),(atP c2 8),(atP c2 9),(atP c2 10),(atP c2 11),(atP c2 12),(atP c2 13),(atP c2 14),(atP c2 15),(atP c2 16),(atP c2 17),(atP c2 18),(atP c2 19),(atP c2 20)],.one v3] fun o57 =>
   xac .eql (I 6) (I 1) fun r58 =>
   xad r58
   (xac .eql (atP o57 0) (I 1) fun r59 =>
   xad r59
   (F2 c2 o57)
   (F4 o57 c2))
   (xac .eql (I 6) (I 2) fun r73 =>
   xad r73
   (xac .eql (atP o57 0) (I 1) fun r74 =>
   xad r74
   (F2 c2 o57)
   (F4 o57 c2))
   (xac .eql (I 6) (I 3) fun r88 =>
   xac .eql (atP o57 0) (I 1) fun r89 =>
   xad r89
   (unP .not r88 fun r90 =>
   xad r90
   ((1=1)∧(1≤16777216)∧(1=1)∧(0=0)∧(1=1)∧(xae [.pv (I 0)] [.pv (I 3)])∧xbd 1 v22 (.list 1 [[(I 3)]]) fun r91 =>
   xac .eql (I 3) (I 1) fun r92 =>
   xad r92
   (F7 c2 r91)
   (xac .add v4 (I 1) fun r94 =>
   K [v0,v1,v2,v3,r94,v5,v6,v7,v8,v9,v10,v11,v12,v13,v14,v15,v16,v17,v18,v19,v20,v21,r91]))
   (F2 c2 o57))
   (F4 o57 c2)))
  let F8:=fun (c2:List PV) (o5:List PV) (r10:PV)=>call Qbj [.agg [(atP c2 2),(atP c2 3),(atP c2 4),(atP c2 5)]] fun o12 =>
   x0k (atP o5 0) (atP o5 1) (atP c2 1) (atP o12 0) (atP o12 1) (atP o12 2) (atP o12 3) v13 v14 v15 v16 v17 v18 v19 v20 r10 v21
  let F5:=fun (o5:List PV) (r40:PV)=>xac .add v4 (I 1) fun r43 =>
   K [v0,v1,v2,v3,r43,(atP o5 0),(atP o5 1),v7,v8,v9,v10,v11,v12,v13,v14,v15,v16,v17,v18,v19,v20,v21,r40]
  let F1:=fun (o5:List PV) (c2:List PV) (o6:List PV)=>call Qik [.agg [(atP o5 0),(atP o5 1)],.one v1] fun o9 =>
   xad (atP o9 0)
   ((1=1)∧(1≤16777216)∧(1=1)∧(0=0)∧(1=1)∧(xae [.pv (I 0)] [.pv (I 3)])∧xbd 1 v22 (.list 1 [[(I 3)]]) fun r10 =>
   xac .eql (I 3) (I 1) fun r11 =>
   xad r11
   (F8 c2 o5 r10)
   (F5 o5 r10))
   ((1=1)∧(1≤16777216)∧(1=1)∧(0=0)∧(1=1)∧(xae [.pv (I 0)] [.pv (atP o6 0)])∧xbd 1 v22 (.list 1 [[(atP o6 0)]]) fun r14 =>
   xac .eql (atP o6 0) (I 1) fun r15 =>
   xad r15
   (F8 c2 o5 r14)
   (F5 o5 r14))
  let F6:=fun (c2:List PV) (o5:List PV) (r40:PV)=>call Qbj [.agg [(atP c2 2),(atP c2 3),(atP c2 4),(atP c2 5)]] fun o42 =>
   x1k (atP o5 0) (atP o5 1) (atP c2 1) (atP o42 0) (atP o42 1) (atP o42 2) (atP o42 3) v13 v14 v15 v16 v17 v18 v19 v20 r40 v21
  let F3:=fun (o6:List PV) (c2:List PV) (o5:List PV)=>(1=1)∧(1≤16777216)∧(1=1)∧(0=0)∧(1=1)∧(xae [.pv (I 0)] [.pv (atP o6 0)])∧xbd 1 v22 (.list 1 [[(atP o6 0)]]) fun r18 =>
   xac .eql (atP o6 0) (I 1) fun r19 =>
   xad r19
   (F6 c2 o5 r18)
   (F5 o5 r18)
  xaH v0 fun r0 =>
  xac .lss v4 r0 fun r1 =>
  xad r1
   (xaj 21 v0 v4 fun c2 =>
   call Qco [.one (atP c2 0)] fun o3 =>
   xad (atP o3 16)
    (xac .eql (atP o3 0) v1 fun r4 =>
    xad r4
     (call Qhv [.agg [v5,v6],.one (atP c2 0)] fun o5 =>
     call Qig [.one v1,.one v2,.agg [(atP c2 0),(atP c2 1),(atP c2 2),(atP c2 3),(atP c2 4),(atP c2 5),(atP c2 6),(atP c2 7),(atP c2 8),(atP c2 9),(atP c2 10),(atP c2 11),(atP c2 12),(atP c2 13),(atP c2 14),(atP c2 15),(atP c2 16),(atP c2 17),(atP c2 18),(atP c2 19),(atP c2 20)],.one v3] fun o6 =>
     xac .eql (atP o5 2) (I 1) fun r7 =>
     xad r7
      (xac .eql (atP o6 0) (I 1) fun r8 =>
      xad r8
       (F1 o5 c2 o6)
       (F3 o6 c2 o5))
      (xac .eql (atP o5 2) (I 2) fun r22 =>
      xad r22
       (xac .eql (atP o6 0) (I 1) fun r23 =>
       xad r23
        (F1 o5 c2 o6)
        (F3 o6 c2 o5))
       (xac .eql (atP o5 2) (I 3) fun r37 =>
       xac .eql (atP o6 0) (I 1) fun r38 =>
       xad r38
        (unP .not r37 fun r39 =>
        xad r39
         ((1=1)∧(1≤16777216)∧(1=1)∧(0=0)∧(1=1)∧(xae [.pv (I 0)] [.pv (I 3)])∧xbd 1 v22 (.list 1 [[(I 3)]]) fun r40 =>
         xac .eql (I 3) (I 1) fun r41 =>
         xad r41
          (F6 c2 o5 r40)
          (F5 o5 r40))
         (F1 o5 c2 o6))
        (F3 o6 c2 o5))))
     (F0 c2))
    (F0 c2))
   (x4k v0 v1 v2 v3 v4 v5 v6 v7 v8 v9 v10 v11 v12 v13 v14 v15 v16 v17 v18 v19 v20 v21 v22)) v
def Qil:GM
 | [.agg u0,.one a2,.one a3,.one a4,.one a5],k=>un 2 (fun a0 a1 =>
  call Qbh [.agg [a0,a1]] fun o0 =>
  lp (fun L w=>Qil_r0 w L
   (fun q159 q160 q161 q162 q163 q164 q165 q166 q167 q168 q169 q170 q171 q172 q173 q174 q175=>rt g5 [q159,q160,q161,q162,q163,q164,q165,(.bool true),q174] k)
   (fun q176 q177 q178 q179 q180 q181 q182 q183 q184 q185 q186 q187 q188 q189 q190 q191 q192=>rt g5 [q176,q177,q178,q179,q180,q181,q182,(.bool true),q191] k)
   (fun q193 q194 q195 q196 q197 q198 q199 q200 q201 q202 q203 q204 q205 q206 q207 q208 q209=>rt g5 [q193,q194,q195,q196,q197,q198,q199,(.bool true),q208] k)
   (fun q210 q211 q212 q213 q214 q215 q216 q217 q218 q219 q220 q221 q222 q223 q224 q225 q226=>rt g5 [q210,q211,q212,q213,q214,q215,q216,(.bool true),q225] k)
   (fun q227 q228 q229 q230 q231 q232 q233 q234 q235 q236 q237 q238 q239 q240 q241 q242 q243 q244 q245 q246 q247 q248 q249=>rt g5 [q232,q233,q234,q235,q236,q237,q238,q239,q249] k)) [a2,a3,a4,a5,(I 0),(atP o0 0),(atP o0 1),(.bool false),(.str ⟨#[]⟩),(I 0),(I 0),(.list 1 []),(.bool false),(.list 1 []),(.list 51 []),(.bool false),(.str ⟨#[]⟩),(I 0),(I 0),(.list 1 []),(.bool false),(.list 1 []),(.list 1 [])]) u0
 | _,_=>False
def Qil_l:List LE:=[⟨none,0,⟨[(1,.one zB),(2,.one zB),(3,.one zB),(4,.one zB),(10,.one (.ptr 1 0)),(11,.one (.ptr 4 0)),(12,.one zB)],[(4,[zB,zB,zB,zB,zB,zB,zB,zB,.own 5]),(1,[zB,zB,zB,zB,zB,zB,zB,zB,.own 6])],[(6,⟨.deep,3,1,(.bool false)⟩),(5,⟨.deep,3,1,(.bool false)⟩)],7,99,[]⟩,fun K k v=>Qil_r0 v K (fun x0 x1 x2 x3 x4 x5 x6 x7 x8 x9 x10 x11 x12 x13 x14 x15 x16=>k .ret ⟨[(10,.one (.ptr 1 0))],[(1,[.pv x0,.pv x1,.pv x2,.pv x3,.pv x4,.pv x5,.pv x6,.kb true,.own 32]),(1,[.pv x7,.pv x8,.pv x9,.pv x10,.pv x11,.pv x12,.pv x13,.pv x14,.own 6])],[(32,⟨.deep,3,1,x15⟩),(6,⟨.deep,3,1,x16⟩)],37,99,[]⟩) (fun x0 x1 x2 x3 x4 x5 x6 x7 x8 x9 x10 x11 x12 x13 x14 x15 x16=>k .ret ⟨[(10,.one (.ptr 1 0))],[(1,[.pv x0,.pv x1,.pv x2,.pv x3,.pv x4,.pv x5,.pv x6,.kb true,.own 31]),(1,[.pv x7,.pv x8,.pv x9,.pv x10,.pv x11,.pv x12,.pv x13,.pv x14,.own 6])],[(31,⟨.deep,3,1,x15⟩),(6,⟨.deep,3,1,x16⟩)],36,99,[]⟩) (fun x0 x1 x2 x3 x4 x5 x6 x7 x8 x9 x10 x11 x12 x13 x14 x15 x16=>k .ret ⟨[(10,.one (.ptr 1 0))],[(1,[.pv x0,.pv x1,.pv x2,.pv x3,.pv x4,.pv x5,.pv x6,.kb true,.own 29]),(1,[.pv x7,.pv x8,.pv x9,.pv x10,.pv x11,.pv x12,.pv x13,.pv x14,.own 6])],[(29,⟨.deep,3,1,x15⟩),(6,⟨.deep,3,1,x16⟩)],34,99,[]⟩) (fun x0 x1 x2 x3 x4 x5 x6 x7 x8 x9 x10 x11 x12 x13 x14 x15 x16=>k .ret ⟨[(10,.one (.ptr 1 0))],[(1,[.pv x0,.pv x1,.pv x2,.pv x3,.pv x4,.pv x5,.pv x6,.kb true,.own 28]),(1,[.pv x7,.pv x8,.pv x9,.pv x10,.pv x11,.pv x12,.pv x13,.pv x14,.own 6])],[(28,⟨.deep,3,1,x15⟩),(6,⟨.deep,3,1,x16⟩)],33,99,[]⟩) (fun x0 x1 x2 x3 x4 x5 x6 x7 x8 x9 x10 x11 x12 x13 x14 x15 x16 x17 x18 x19 x20 x21 x22=>k (.exit 0) ⟨[(1,.one (.pv x0)),(2,.one (.pv x1)),(3,.one (.pv x2)),(4,.one (.pv x3)),(10,.one (.ptr 1 0)),(11,.one (.ptr 4 0)),(12,.one (.pv x4))],[(4,[.pv x5,.pv x6,.pv x7,.pv x8,.pv x9,.pv x10,.pv x11,.pv x12,.own 5]),(1,[.pv x13,.pv x14,.pv x15,.pv x16,.pv x17,.pv x18,.pv x19,.pv x20,.own 6])],[(6,⟨.deep,3,1,x21⟩),(5,⟨.deep,3,1,x22⟩)],7,99,[]⟩)⟩]
theorem Qil_s:xaC [⟨[150],Qbh⟩,⟨[171],Qco⟩,⟨[172],Qhv⟩,⟨[173],Qig⟩,⟨[174],Qik⟩,⟨[175],Qbj⟩] TT.shr (kk [1,2,3,4,10,11,12,40,41,42,43,62,63,66,67,72,73,74,75,76,77,78,79,999999]) Qil_l f85 Qil_l:=⟨fun v K k h=>by
 apply xab h;(repeat intro _);rename_i h;exact km h
 ,trivial⟩
theorem Qil_w:EO ⟨[85],Qil⟩:=oS (ec Qbh_w (ec Qco_w (ec Qhv_w (ec Qig_w (ec Qik_w (ec Qbj_w en)))))) (keep:=(kk [1,2,3,4,10,11,12,40,41,42,43,62,63,66,67,72,73,74,75,76,77,78,79,999999])) (l:=Qil_l) func85 Qil_s fun av k h=>by
 unfold Qil at h;split at h
 ·apply xab h;clear h;intro a0 a1 h;exact km h
 ·exact h.elim
def Qim:GM
 | [.agg u0,.ro (.cells u1)],k=>un 2 (fun a0 a1=>un 1 (fun a2 =>
  call Qgi [.agg [a0,a1]] fun o0 =>
  xac .eql (atP o0 0) a2 fun r1 =>
  rt [.sc] [r1] k) u1) u0
 | _,_=>False
theorem Qim_w:EO ⟨[249],Qim⟩:=oFz (ec Qgi_w en) func249 fun av k h=>by
 unfold Qim at h;split at h
 ·apply xab h;clear h;intro a0 a1 h;apply xab h;clear h;intro a2 h;exact km h
 ·exact h.elim
def Qin_r0 (v:List PV) (K:List PV→Prop) (x0k:PV→Prop) (x1k:Cur 5):Prop :=
 un 5 (fun v0 v1 v2 v3 v4 =>
  xac .lss v4 v3 fun r0 =>
  xad r0
   (xaj 2 v0 v4 fun c1 =>
   call Qim [.agg [(atP c1 0),(atP c1 1)],.ro (.cells [v1])] fun o2 =>
   xad (atP o2 0)
    (x0k v4)
    (xac .add v4 (I 1) fun r3 =>
    K [v0,v1,v2,v3,r3]))
   (x1k v0 v1 v2 v3 v4)) v
def Qin:GM
 | [.one a0,.fn 249 [.cells u0]],k=>un 1 (fun a1 =>
  xaH a0 fun r0 =>
  lp (fun L w=>Qin_r0 w L
   (fun q4=>rt [.sc] [q4] k)
   (fun q5 q6 q7 q8 q9=>rt [.sc] [(I (-1))] k)) [a0,a1,(I 0),r0,(I 0)]) u0
 | _,_=>False
def Qin_l:List LE:=[⟨none,0,⟨[(0,.one zB),(1,.one (.fn 249 [.ro (.cells [(.bool false)])])),(4,.one zB),(7,.one zB),(8,.one zB)],[],[],0,19,[]⟩,fun K k v=>Qin_r0 v K (fun x0=>k .ret ⟨[(4,.one (.pv x0))],[],[],1,19,[]⟩) (fun x0 x1 x2 x3 x4=>k (.exit 0) ⟨[(0,.one (.pv x0)),(1,.one (.fn 249 [.ro (.cells [x1])])),(4,.one (.pv x2)),(7,.one (.pv x3)),(8,.one (.pv x4))],[],[],0,19,[]⟩)⟩]
theorem Qin_s:xaC [⟨[249],Qim⟩] TT (kk [0,1,4,7,8]) Qin_l f248 Qin_l:=⟨fun v K k h=>by
 apply xab h;exact fun v0 v1 v2 v3 v4 h=>km h
 ,trivial⟩
theorem Qin_w:EO ⟨[248,249],Qin⟩:=oN (ec Qim_w en) (keep:=(kk [0,1,4,7,8])) (l:=Qin_l) func248 Qin_s fun av k h=>by
 unfold Qin at h;split at h
 ·apply xab h;clear h;intro a1 h;exact km h
 ·exact h.elim
def Qio:GM
 | [.agg u0,.one a2],k=>un 2 (fun a0 a1 =>
  xac .lss a2 (I 0) fun r0 =>
  xad r0
   (rt [.sc] [(I (-1))] k)
   (call Qin [.one a0,.fn 249 [.cells [a2]]] fun o1 =>
   rt [.sc] [(atP o1 0)] k)) u0
 | _,_=>False
theorem Qio_w:EO ⟨[178],Qio⟩:=oFz (ec Qin_w en) func178 fun av k h=>by
 unfold Qio at h;split at h
 ·apply xab h;clear h;intro a0 a1 h;exact km h
 ·exact h.elim
def Qip:GM
 | [.agg u0,.ro (.cells u1)],k=>un 4 (fun a0 a1 a2 a3=>un 1 (fun a4 =>
  xac .eql a0 a4 fun r0 =>
  rt [.sc] [r0] k) u1) u0
 | _,_=>False
theorem Qip_w:EO ⟨[358],Qip⟩:=oFz en func358 fun av k h=>by
 unfold Qip at h;split at h
 ·apply xab h;clear h;intro a0 a1 a2 a3 h;apply xab h;clear h;intro a4 h;exact km h
 ·exact h.elim
def Qiq_r0 (v:List PV) (K:List PV→Prop) (x0k:PV→Prop) (x1k:Cur 5):Prop :=
 un 5 (fun v0 v1 v2 v3 v4 =>
  xac .lss v4 v3 fun r0 =>
  xad r0
   (xaj 4 v0 v4 fun c1 =>
   call Qip [.agg [(atP c1 0),(atP c1 1),(atP c1 2),(atP c1 3)],.ro (.cells [v1])] fun o2 =>
   xad (atP o2 0)
    (x0k v4)
    (xac .add v4 (I 1) fun r3 =>
    K [v0,v1,v2,v3,r3]))
   (x1k v0 v1 v2 v3 v4)) v
def Qiq:GM
 | [.one a0,.fn 358 [.cells u0]],k=>un 1 (fun a1 =>
  xaH a0 fun r0 =>
  lp (fun L w=>Qiq_r0 w L
   (fun q4=>rt [.sc] [q4] k)
   (fun q5 q6 q7 q8 q9=>rt [.sc] [(I (-1))] k)) [a0,a1,(I 0),r0,(I 0)]) u0
 | _,_=>False
def Qiq_l:List LE:=[⟨none,0,⟨[(0,.one zB),(1,.one (.fn 358 [.ro (.cells [(.bool false)])])),(4,.one zB),(7,.one zB),(8,.one zB)],[],[],0,19,[]⟩,fun K k v=>Qiq_r0 v K (fun x0=>k .ret ⟨[(4,.one (.pv x0))],[],[],1,19,[]⟩) (fun x0 x1 x2 x3 x4=>k (.exit 0) ⟨[(0,.one (.pv x0)),(1,.one (.fn 358 [.ro (.cells [x1])])),(4,.one (.pv x2)),(7,.one (.pv x3)),(8,.one (.pv x4))],[],[],0,19,[]⟩)⟩]
theorem Qiq_s:xaC [⟨[358],Qip⟩] TT (kk [0,1,4,7,8]) Qiq_l f357 Qiq_l:=⟨fun v K k h=>by
 apply xab h;exact fun v0 v1 v2 v3 v4 h=>km h
 ,trivial⟩
theorem Qiq_w:EO ⟨[357,358],Qiq⟩:=oN (ec Qip_w en) (keep:=(kk [0,1,4,7,8])) (l:=Qiq_l) func357 Qiq_s fun av k h=>by
 unfold Qiq at h;split at h
 ·apply xab h;clear h;intro a1 h;exact km h
 ·exact h.elim
def Qir:GM
 | [.one a0,.one a1],k =>
  call Qiq [.one a0,.fn 358 [.cells [a1]]] fun o0 =>
  rt [.sc] [(atP o0 0)] k
 | _,_=>False
theorem Qir_w:EO ⟨[308],Qir⟩:=oFz (ec Qiq_w en) func308 fun av k h=>by
 unfold Qir at h;split at h
 ·exact km h
 ·exact h.elim
def Qis_r0 (v:List PV) (K:List PV→Prop) (x0k:Cur 4):Prop :=
 un 4 (fun v0 v1 v2 v3 =>
  xaH v0 fun r0 =>
  xac .gtr r0 (I 1) fun r1 =>
  xad r1
   (xac .xor v1 (I 1) fun r2 =>
   xaH v0 fun r3 =>
   xac .lss r2 r3 fun r4 =>
   xad r4
    (xaj 1 v0 r2 fun c5 =>
    (1=1)∧(1≤16777216)∧(1=1)∧(0=0)∧(1=1)∧(xae [.pv (I 0)] [.pv (atP c5 0)])∧xbd 1 v3 (.list 1 [[(atP c5 0)]]) fun r6 =>
    call Qgc [.one v0] fun o7 =>
    xac .quo v1 (I 2) fun r8 =>
    K [(atP o7 0),r8,v2,r6])
    (call Qgc [.one v0] fun o9 =>
    xac .quo v1 (I 2) fun r10 =>
    K [(atP o9 0),r10,v2,v3]))
   (x0k v0 v1 v2 v3)) v
def Qis:GM
 | [.one a0,.one a1],k =>
  (0=0)∧(0≤16777216)∧(1=1)∧xaH a0 fun r0 =>
  xac .sub r0 (I 1) fun r1 =>
  call Qdw [.one a1,.one (I 0),.one r1] fun o2 =>
  unP .not (atP o2 0) fun r3 =>
  xad r3
   (rt [.own true 3 1] [(.list 1 [])] k)
   (lp (fun L w=>Qis_r0 w L
    (fun q11 q12 q13 q14=>rt [.own true 3 1] [q14] k)) [a0,a1,(.list 1 []),(.list 1 [])])
 | _,_=>False
def Qis_l:List LE:=[⟨none,0,⟨[(0,.one zB),(1,.one zB),(4,.one (.own 2)),(5,.one (.own 0))],[],[(2,⟨.deep,3,1,(.bool false)⟩),(0,⟨.deep,3,1,(.bool false)⟩)],3,36,[]⟩,fun K k v=>Qis_r0 v K (fun x0 x1 x2 x3=>k (.exit 0) ⟨[(0,.one (.pv x0)),(1,.one (.pv x1)),(4,.one (.own 2)),(5,.one (.own 0))],[],[(2,⟨.deep,3,1,x2⟩),(0,⟨.deep,3,1,x3⟩)],3,36,[]⟩)⟩]
theorem Qis_s:xaC [⟨[266],Qdw⟩,⟨[401],Qgc⟩] TT.nofl (kk [0,1,4,5,999999]) Qis_l f359 Qis_l:=⟨fun v K k h=>by
 apply xab h;exact fun v0 v1 v2 v3 h=>km h
 ,trivial⟩
theorem Qis_w:EO ⟨[359],Qis⟩:=oF (ec Qdw_w (ec Qgc_w en)) (keep:=(kk [0,1,4,5,999999])) (l:=Qis_l) func359 Qis_s fun av k h=>by
 unfold Qis at h;split at h
 ·exact km h
 ·exact h.elim
def Qit:GM
 | [.one a0,.one a1],k =>
  call Qir [.one a0,.one a1] fun o0 =>
  xac .lss (atP o0 0) (I 0) fun r1 =>
  xad r1
   (rt [.sc,.own true 3 1,.sc] [(I 0),(.list 1 []),(.bool false)] k)
   (call Qfz [.one a0] fun o2 =>
   call Qis [.one (atP o2 0),.one (atP o0 0)] fun o3 =>
   rt [.sc,.own true 3 1,.sc] [(atP o0 0),(atP o3 0),(.bool true)] k)
 | _,_=>False
theorem Qit_w:EO ⟨[309],Qit⟩:=oFz (ec Qir_w (ec Qfz_w (ec Qis_w en))) func309 fun av k h=>by
 unfold Qit at h;split at h
 ·exact km h
 ·exact h.elim
def Qiu_r0 (v:List PV) (K:List PV→Prop) (x0k:Cur 6):Prop :=
 un 6 (fun v0 v1 v2 v3 v4 v5 =>
  xac .lss v5 v4 fun r0 =>
  xad r0
   (xaj 4 v3 v5 fun c1 =>
   call Qft [.one (atP c1 0),.one v0] fun o2 =>
   xac .lss (atP o2 0) (I 0) fun r3 =>
   xad r3
    (xac .add v2 (I 1) fun r4 =>
    xac .add v5 (I 1) fun r5 =>
    K [v0,v1,r4,v3,v4,r5])
    (xac .add v5 (I 1) fun r6 =>
    K [v0,v1,v2,v3,v4,r6]))
   (x0k v0 v1 v2 v3 v4 v5)) v
def Qiu:GM
 | [.one a0,.one a1],k =>
  xaH a0 fun r0 =>
  lp (fun L w=>Qiu_r0 w L
   (fun q7 q8 q9 q10 q11 q12=>rt [.sc] [q9] k)) [a1,(I 0),(I 0),a0,r0,(I 0)]
 | _,_=>False
def Qiu_l:List LE:=[⟨none,0,⟨[(1,.one zB),(4,.one zB),(5,.one zB),(8,.one zB),(9,.one zB),(10,.one zB)],[],[],0,23,[]⟩,fun K k v=>Qiu_r0 v K (fun x0 x1 x2 x3 x4 x5=>k (.exit 0) ⟨[(1,.one (.pv x0)),(4,.one (.pv x1)),(5,.one (.pv x2)),(8,.one (.pv x3)),(9,.one (.pv x4)),(10,.one (.pv x5))],[],[],0,23,[]⟩)⟩]
theorem Qiu_s:xaC [⟨[366],Qft⟩] TT.nofl (kk [1,4,5,8,9,10,999999]) Qiu_l f361 Qiu_l:=⟨fun v K k h=>by
 apply xab h;exact fun v0 v1 v2 v3 v4 v5 h=>km h
 ,trivial⟩
theorem Qiu_w:EO ⟨[361],Qiu⟩:=oF (ec Qft_w en) (keep:=(kk [1,4,5,8,9,10,999999])) (l:=Qiu_l) func361 Qiu_s fun av k h=>by
 unfold Qiu at h;split at h
 ·exact km h
 ·exact h.elim
end Go.Ev
