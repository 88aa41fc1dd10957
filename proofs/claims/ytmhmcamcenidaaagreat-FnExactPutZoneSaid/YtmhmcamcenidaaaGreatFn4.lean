/- The tables of this load, and for each function the meaning that the evaluator gives it, with its proof, part 4. -/
import Derived.Test.YtmhmcamcenidaaaGreatFn3
set_option maxRecDepth 100000
set_option linter.unusedVariables false
namespace Go.Ev
open Go.Proofs
abbrev heldForkS_H:Fr:=⟨[(0,.one zB),(1,.one zB),(4,.one zB),(5,.one zB)],[],[],0,595,[]⟩
abbrev heldForkS_F0:Fr:=⟨[(9,.one (.kb true)),(8,.one zB),(0,.one zB),(1,.one zB),(4,.one zB),(5,.one zB)],[],[],0,595,[]⟩
abbrev heldForkS_F1:Fr:=⟨[(1,.one zB),(77,.one zB),(76,.one zB),(0,.one zB),(4,.one zB),(5,.one zB)],[],[],0,595,[]⟩
abbrev heldForkS_F2:Fr:=⟨[(1,.one zB),(147,.one zB),(146,.one zB),(0,.one zB),(4,.one zB),(5,.one zB)],[],[],2,595,[]⟩
abbrev heldForkS_F3:Fr:=⟨[(1,.one zB),(216,.one zB),(215,.one zB),(0,.one zB),(4,.one zB),(5,.one zB)],[],[],4,595,[]⟩
abbrev heldForkS_F4:Fr:=⟨[(1,.one zB),(282,.one zB),(281,.one zB),(0,.one zB),(4,.one zB),(5,.one zB)],[],[],4,595,[]⟩
abbrev heldForkS_F5:Fr:=⟨[(1,.one zB),(352,.one zB),(351,.one zB),(0,.one zB),(4,.one zB),(5,.one zB)],[],[],6,595,[]⟩
abbrev heldForkS_F6:Fr:=⟨[(1,.one zB),(421,.one zB),(420,.one zB),(0,.one zB),(4,.one zB),(5,.one zB)],[],[],8,595,[]⟩
abbrev heldForkS_F7:Fr:=⟨[(1,.one zB),(487,.one zB),(486,.one zB),(0,.one zB),(4,.one zB),(5,.one zB)],[],[],8,595,[]⟩
abbrev heldForkS_F8:Fr:=⟨[(558,.one (.kb false)),(557,.one zB),(1,.one zB),(0,.one zB),(4,.one zB),(5,.one zB)],[],[],11,595,[]⟩
abbrev heldForkS_F9:Fr:=⟨[(593,.one (.kb false)),(592,.one zB),(1,.one zB),(0,.one zB),(4,.one zB),(5,.one zB)],[],[],12,595,[]⟩
abbrev heldForkS_x0 (x0 x1 x2 x3:PV):Fr:=⟨[(0,.one (.pv x0)),(1,.one (.pv x1)),(4,.one (.pv x2)),(5,.one (.pv x3))],[],[],0,595,[]⟩
abbrev heldForkS_x1:Fr:=⟨[(4,.one (.pv (I (-1))))],[],[],0,595,[]⟩
abbrev heldForkS_x2:Fr:=⟨[(4,.one (.pv (I (-1))))],[],[],1,595,[]⟩
abbrev heldForkS_x3:Fr:=⟨[(4,.one (.pv (I (-1))))],[],[],2,595,[]⟩
abbrev heldForkS_x4:Fr:=⟨[(4,.one (.pv (I (-1))))],[],[],3,595,[]⟩
abbrev heldForkS_x5:Fr:=⟨[(4,.one (.pv (I (-1))))],[],[],4,595,[]⟩
abbrev heldForkS_x6:Fr:=⟨[(4,.one (.pv (I (-1))))],[],[],5,595,[]⟩
abbrev heldForkS_x7:Fr:=⟨[(4,.one (.pv (I (-1))))],[],[],6,595,[]⟩
abbrev heldForkS_x8:Fr:=⟨[(4,.one (.pv (I (-1))))],[],[],7,595,[]⟩
abbrev heldForkS_x9:Fr:=⟨[(4,.one (.pv (I (-1))))],[],[],8,595,[]⟩
abbrev heldForkS_x10:Fr:=⟨[(4,.one (.pv (I (-1))))],[],[],9,595,[]⟩
abbrev heldForkS_x11:Fr:=⟨[(4,.one (.pv (I (-1))))],[],[],10,595,[]⟩
abbrev heldForkS_x12:Fr:=⟨[(4,.one (.pv (I (-1))))],[],[],11,595,[]⟩
abbrev heldForkS_x13:Fr:=⟨[(4,.one (.pv (I (-1))))],[],[],12,595,[]⟩
def heldForkS_a (K:PV→PV→PV→PV→PV→Prop) (x0k:PV→PV→PV→PV→Prop) (x1k x2k x3k x4k x5k x6k x7k x8k x9k x10k x11k x12k x13k:Prop) (v0 v1 v2 v3:PV):Prop :=
 lenP v0 fun r0 =>
 binP .lss v3 r0 fun r1 =>
 iteP r1
  (K r0 v0 v1 v2 v3)
  (x0k v0 v1 v2 v3)
def heldForkS_p0 (K:PV→PV→PV→PV→PV→PV→Prop) (x0k:PV→PV→PV→PV→Prop) (x1k x2k x3k x4k x5k x6k x7k x8k x9k x10k x11k x12k x13k:Prop) (w0 w1 w2 w3 w4:PV):Prop :=
 elemP 51 w1 w4 fun c0 =>
 binP .neq (atP c0 0) w2 fun r1 =>
 iteP r1
  (x1k)
  (binP .add w2 (I 1) fun r2 =>
  elemP 51 w1 w4 fun c3 =>
  binP .neq (atP c3 1) r2 fun r4 =>
  iteP r4
   (x1k)
   (binP .add r2 (I 1) fun r5 =>
   elemP 51 w1 w4 fun c6 =>
   binP .neq (atP c6 2) r5 fun r7 =>
   iteP r7
    (x1k)
    (binP .add r5 (I 1) fun r8 =>
    elemP 51 w1 w4 fun c9 =>
    binP .neq (atP c9 3) r8 fun r10 =>
    iteP r10
     (x1k)
     (binP .add r8 (I 1) fun r11 =>
     elemP 51 w1 w4 fun c12 =>
     binP .neq (atP c12 4) r11 fun r13 =>
     iteP r13
      (x1k)
      (binP .add r11 (I 1) fun r14 =>
      elemP 51 w1 w4 fun c15 =>
      binP .neq (atP c15 5) r14 fun r16 =>
      iteP r16
       (x1k)
       (binP .add r14 (I 1) fun r17 =>
       K r17 r17 r14 w1 w3 w4))))))
def heldForkS_p1 (K:PV→PV→PV→PV→PV→PV→Prop) (x0k:PV→PV→PV→PV→Prop) (x1k x2k x3k x4k x5k x6k x7k x8k x9k x10k x11k x12k x13k:Prop) (w0 w1 w2 w3 w4 w5:PV):Prop :=
 elemP 51 w3 w5 fun c0 =>
 binP .neq (atP c0 6) w0 fun r1 =>
 iteP r1
  (x1k)
  (binP .add w0 (I 1) fun r2 =>
  elemP 51 w3 w5 fun c3 =>
  binP .neq (atP c3 7) r2 fun r4 =>
  iteP r4
   (x1k)
   (binP .add r2 (I 1) fun r5 =>
   elemP 51 w3 w5 fun c6 =>
   call Qjf [.one (atP c6 8),.one r5] fun o7 =>
   binP .lss (atP o7 0) (I 0) fun r8 =>
   iteP r8
    (x2k)
    (elemP 51 w3 w5 fun c9 =>
    binP .neq (atP c9 9) (atP o7 0) fun r10 =>
    iteP r10
     (x2k)
     (binP .add (atP o7 0) (I 1) fun r11 =>
     elemP 51 w3 w5 fun c12 =>
     call Qjf [.one (atP c12 10),.one r11] fun o13 =>
     binP .lss (atP o13 0) (I 0) fun r14 =>
     iteP r14
      (x3k)
      (elemP 51 w3 w5 fun c15 =>
      binP .neq (atP c15 11) (atP o13 0) fun r16 =>
      iteP r16
       (x3k)
       (binP .add (atP o13 0) (I 1) fun r17 =>
       K r17 r17 (atP o13 0) w3 w4 w5))))))
def heldForkS_p2 (K:PV→PV→PV→PV→PV→PV→Prop) (x0k:PV→PV→PV→PV→Prop) (x1k x2k x3k x4k x5k x6k x7k x8k x9k x10k x11k x12k x13k:Prop) (w0 w1 w2 w3 w4 w5:PV):Prop :=
 elemP 51 w3 w5 fun c0 =>
 binP .neq (atP c0 12) w0 fun r1 =>
 iteP r1
  (x3k)
  (binP .add w0 (I 1) fun r2 =>
  elemP 51 w3 w5 fun c3 =>
  call Qjf [.one (atP c3 13),.one r2] fun o4 =>
  binP .lss (atP o4 0) (I 0) fun r5 =>
  iteP r5
   (x4k)
   (elemP 51 w3 w5 fun c6 =>
   binP .neq (atP c6 14) (atP o4 0) fun r7 =>
   iteP r7
    (x4k)
    (binP .add (atP o4 0) (I 1) fun r8 =>
    elemP 51 w3 w5 fun c9 =>
    binP .rem r8 (I 3) fun r10 =>
    binP .eql r10 (I 0) fun r11 =>
    boolP .neq (atP c9 15) r11 fun r12 =>
    iteP r12
     (x4k)
     (binP .add r8 (I 1) fun r13 =>
     elemP 51 w3 w5 fun c14 =>
     call Qjh [.one (atP c14 16),.one r13] fun o15 =>
     binP .lss (atP o15 0) (I 0) fun r16 =>
     iteP r16
      (x5k)
      (elemP 51 w3 w5 fun c17 =>
      binP .neq (atP c17 17) (atP o15 0) fun r18 =>
      iteP r18
       (x5k)
       (binP .add (atP o15 0) (I 1) fun r19 =>
       K r19 r19 (atP o15 0) w3 w4 w5))))))
def heldForkS_p3 (K:PV→PV→PV→PV→PV→PV→Prop) (x0k:PV→PV→PV→PV→Prop) (x1k x2k x3k x4k x5k x6k x7k x8k x9k x10k x11k x12k x13k:Prop) (w0 w1 w2 w3 w4 w5:PV):Prop :=
 elemP 51 w3 w5 fun c0 =>
 binP .neq (atP c0 18) w0 fun r1 =>
 iteP r1
  (x5k)
  (binP .add w0 (I 1) fun r2 =>
  elemP 51 w3 w5 fun c3 =>
  binP .neq (atP c3 19) r2 fun r4 =>
  iteP r4
   (x5k)
   (binP .add r2 (I 1) fun r5 =>
   elemP 51 w3 w5 fun c6 =>
   binP .neq (atP c6 20) r5 fun r7 =>
   iteP r7
    (x5k)
    (binP .add r5 (I 1) fun r8 =>
    elemP 51 w3 w5 fun c9 =>
    binP .neq (atP c9 21) r8 fun r10 =>
    iteP r10
     (x5k)
     (binP .add r8 (I 1) fun r11 =>
     elemP 51 w3 w5 fun c12 =>
     binP .neq (atP c12 22) r11 fun r13 =>
     iteP r13
      (x5k)
      (binP .add r11 (I 1) fun r14 =>
      elemP 51 w3 w5 fun c15 =>
      binP .neq (atP c15 23) r14 fun r16 =>
      iteP r16
       (x5k)
       (binP .add r14 (I 1) fun r17 =>
       K r17 r17 r14 w3 w4 w5))))))
def heldForkS_p4 (K:PV→PV→PV→PV→PV→PV→Prop) (x0k:PV→PV→PV→PV→Prop) (x1k x2k x3k x4k x5k x6k x7k x8k x9k x10k x11k x12k x13k:Prop) (w0 w1 w2 w3 w4 w5:PV):Prop :=
 elemP 51 w3 w5 fun c0 =>
 binP .neq (atP c0 24) w0 fun r1 =>
 iteP r1
  (x5k)
  (binP .add w0 (I 1) fun r2 =>
  elemP 51 w3 w5 fun c3 =>
  call Qjf [.one (atP c3 25),.one r2] fun o4 =>
  binP .lss (atP o4 0) (I 0) fun r5 =>
  iteP r5
   (x6k)
   (elemP 51 w3 w5 fun c6 =>
   binP .neq (atP c6 26) (atP o4 0) fun r7 =>
   iteP r7
    (x6k)
    (binP .add (atP o4 0) (I 1) fun r8 =>
    elemP 51 w3 w5 fun c9 =>
    call Qjf [.one (atP c9 27),.one r8] fun o10 =>
    binP .lss (atP o10 0) (I 0) fun r11 =>
    iteP r11
     (x7k)
     (elemP 51 w3 w5 fun c12 =>
     binP .neq (atP c12 28) (atP o10 0) fun r13 =>
     iteP r13
      (x7k)
      (binP .add (atP o10 0) (I 1) fun r14 =>
      elemP 51 w3 w5 fun c15 =>
      binP .neq (atP c15 29) r14 fun r16 =>
      iteP r16
       (x7k)
       (binP .add r14 (I 1) fun r17 =>
       K r17 r17 r14 w3 w4 w5))))))
def heldForkS_p5 (K:PV→PV→PV→PV→PV→PV→Prop) (x0k:PV→PV→PV→PV→Prop) (x1k x2k x3k x4k x5k x6k x7k x8k x9k x10k x11k x12k x13k:Prop) (w0 w1 w2 w3 w4 w5:PV):Prop :=
 elemP 51 w3 w5 fun c0 =>
 call Qjf [.one (atP c0 30),.one w0] fun o1 =>
 binP .lss (atP o1 0) (I 0) fun r2 =>
 iteP r2
  (x8k)
  (elemP 51 w3 w5 fun c3 =>
  binP .neq (atP c3 31) (atP o1 0) fun r4 =>
  iteP r4
   (x8k)
   (binP .add (atP o1 0) (I 1) fun r5 =>
   elemP 51 w3 w5 fun c6 =>
   binP .rem r5 (I 3) fun r7 =>
   binP .eql r7 (I 0) fun r8 =>
   boolP .neq (atP c6 32) r8 fun r9 =>
   iteP r9
    (x8k)
    (binP .add r5 (I 1) fun r10 =>
    elemP 51 w3 w5 fun c11 =>
    call Qjh [.one (atP c11 33),.one r10] fun o12 =>
    binP .lss (atP o12 0) (I 0) fun r13 =>
    iteP r13
     (x9k)
     (elemP 51 w3 w5 fun c14 =>
     binP .neq (atP c14 34) (atP o12 0) fun r15 =>
     iteP r15
      (x9k)
      (binP .add (atP o12 0) (I 1) fun r16 =>
      elemP 51 w3 w5 fun c17 =>
      binP .neq (atP c17 35) r16 fun r18 =>
      iteP r18
       (x9k)
       (binP .add r16 (I 1) fun r19 =>
       K r19 r19 r16 w3 w4 w5))))))
def heldForkS_p6 (K:PV→PV→PV→PV→PV→PV→Prop) (x0k:PV→PV→PV→PV→Prop) (x1k x2k x3k x4k x5k x6k x7k x8k x9k x10k x11k x12k x13k:Prop) (w0 w1 w2 w3 w4 w5:PV):Prop :=
 elemP 51 w3 w5 fun c0 =>
 binP .neq (atP c0 36) w0 fun r1 =>
 iteP r1
  (x9k)
  (binP .add w0 (I 1) fun r2 =>
  elemP 51 w3 w5 fun c3 =>
  binP .neq (atP c3 37) r2 fun r4 =>
  iteP r4
   (x9k)
   (binP .add r2 (I 1) fun r5 =>
   elemP 51 w3 w5 fun c6 =>
   binP .neq (atP c6 38) r5 fun r7 =>
   iteP r7
    (x9k)
    (binP .add r5 (I 1) fun r8 =>
    elemP 51 w3 w5 fun c9 =>
    binP .neq (atP c9 39) r8 fun r10 =>
    iteP r10
     (x9k)
     (binP .add r8 (I 1) fun r11 =>
     elemP 51 w3 w5 fun c12 =>
     binP .neq (atP c12 40) r11 fun r13 =>
     iteP r13
      (x9k)
      (binP .add r11 (I 1) fun r14 =>
      elemP 51 w3 w5 fun c15 =>
      binP .neq (atP c15 41) r14 fun r16 =>
      iteP r16
       (x9k)
       (binP .add r14 (I 1) fun r17 =>
       K r17 r17 r14 w3 w4 w5))))))
def heldForkS_p7 (K:PV→PV→PV→PV→PV→Prop) (x0k:PV→PV→PV→PV→Prop) (x1k x2k x3k x4k x5k x6k x7k x8k x9k x10k x11k x12k x13k:Prop) (w0 w1 w2 w3 w4 w5:PV):Prop :=
 elemP 51 w3 w5 fun c0 =>
 call Qjf [.one (atP c0 42),.one w0] fun o1 =>
 binP .lss (atP o1 0) (I 0) fun r2 =>
 iteP r2
  (x10k)
  (elemP 51 w3 w5 fun c3 =>
  binP .neq (atP c3 43) (atP o1 0) fun r4 =>
  iteP r4
   (x10k)
   (binP .add (atP o1 0) (I 1) fun r5 =>
   elemP 51 w3 w5 fun c6 =>
   call Qjf [.one (atP c6 44),.one r5] fun o7 =>
   binP .lss (atP o7 0) (I 0) fun r8 =>
   iteP r8
    (x11k)
    (elemP 51 w3 w5 fun c9 =>
    binP .neq (atP c9 45) (atP o7 0) fun r10 =>
    iteP r10
     (x11k)
     (binP .add (atP o7 0) (I 1) fun r11 =>
     elemP 51 w3 w5 fun c12 =>
     binP .neq (atP c12 46) r11 fun r13 =>
     iteP r13
      (x11k)
      (binP .add r11 (I 1) fun r14 =>
      elemP 51 w3 w5 fun c15 =>
      call Qjf [.one (atP c15 47),.one r14] fun o16 =>
      binP .lss (atP o16 0) (I 0) fun r17 =>
      iteP r17
       (x12k)
       (K (atP o16 0) (atP o16 0) w3 w4 w5))))))
def heldForkS_p8 (K:PV→PV→PV→PV→PV→Prop) (x0k:PV→PV→PV→PV→Prop) (x1k x2k x3k x4k x5k x6k x7k x8k x9k x10k x11k x12k x13k:Prop) (w0 w1 w2 w3 w4:PV):Prop :=
 elemP 51 w2 w4 fun c0 =>
 binP .neq (atP c0 48) w1 fun r1 =>
 iteP r1
  (x12k)
  (binP .add w1 (I 1) fun r2 =>
  elemP 51 w2 w4 fun c3 =>
  binP .rem r2 (I 3) fun r4 =>
  binP .eql r4 (I 0) fun r5 =>
  boolP .neq (atP c3 49) r5 fun r6 =>
  iteP r6
   (x12k)
   (binP .add r2 (I 1) fun r7 =>
   elemP 51 w2 w4 fun c8 =>
   call Qjh [.one (atP c8 50),.one r7] fun o9 =>
   binP .lss (atP o9 0) (I 0) fun r10 =>
   iteP r10
    (x13k)
    (K (atP o9 0) (atP o9 0) w2 w3 w4)))
def heldForkS_z (K:List PV→Prop) (x0k:PV→PV→PV→PV→Prop) (x1k x2k x3k x4k x5k x6k x7k x8k x9k x10k x11k x12k x13k:Prop) (v0 v1 v2 v3:PV) (w0 w1 w2 w3 w4:PV):Prop :=
 binP .add w4 (I 1) fun r0 =>
 K [w2,w1,w3,r0]
def heldForkS_q9 (K:List PV→Prop) (x0k:PV→PV→PV→PV→Prop) (x1k x2k x3k x4k x5k x6k x7k x8k x9k x10k x11k x12k x13k:Prop) (v0 v1 v2 v3:PV) (w0 w1 w2 w3 w4:PV):Prop:=heldForkS_z K x0k x1k x2k x3k x4k x5k x6k x7k x8k x9k x10k x11k x12k x13k v0 v1 v2 v3 w0 w1 w2 w3 w4
def heldForkS_q8 (K:List PV→Prop) (x0k:PV→PV→PV→PV→Prop) (x1k x2k x3k x4k x5k x6k x7k x8k x9k x10k x11k x12k x13k:Prop) (v0 v1 v2 v3:PV) (w0 w1 w2 w3 w4:PV):Prop:=heldForkS_p8 (fun w0 w1 w2 w3 w4=>heldForkS_q9 K x0k x1k x2k x3k x4k x5k x6k x7k x8k x9k x10k x11k x12k x13k v0 v1 v2 v3 w0 w1 w2 w3 w4) x0k x1k x2k x3k x4k x5k x6k x7k x8k x9k x10k x11k x12k x13k w0 w1 w2 w3 w4
def heldForkS_q7 (K:List PV→Prop) (x0k:PV→PV→PV→PV→Prop) (x1k x2k x3k x4k x5k x6k x7k x8k x9k x10k x11k x12k x13k:Prop) (v0 v1 v2 v3:PV) (w0 w1 w2 w3 w4 w5:PV):Prop:=heldForkS_p7 (fun w0 w1 w2 w3 w4=>heldForkS_q8 K x0k x1k x2k x3k x4k x5k x6k x7k x8k x9k x10k x11k x12k x13k v0 v1 v2 v3 w0 w1 w2 w3 w4) x0k x1k x2k x3k x4k x5k x6k x7k x8k x9k x10k x11k x12k x13k w0 w1 w2 w3 w4 w5
def heldForkS_q6 (K:List PV→Prop) (x0k:PV→PV→PV→PV→Prop) (x1k x2k x3k x4k x5k x6k x7k x8k x9k x10k x11k x12k x13k:Prop) (v0 v1 v2 v3:PV) (w0 w1 w2 w3 w4 w5:PV):Prop:=heldForkS_p6 (fun w0 w1 w2 w3 w4 w5=>heldForkS_q7 K x0k x1k x2k x3k x4k x5k x6k x7k x8k x9k x10k x11k x12k x13k v0 v1 v2 v3 w0 w1 w2 w3 w4 w5) x0k x1k x2k x3k x4k x5k x6k x7k x8k x9k x10k x11k x12k x13k w0 w1 w2 w3 w4 w5
def heldForkS_q5 (K:List PV→Prop) (x0k:PV→PV→PV→PV→Prop) (x1k x2k x3k x4k x5k x6k x7k x8k x9k x10k x11k x12k x13k:Prop) (v0 v1 v2 v3:PV) (w0 w1 w2 w3 w4 w5:PV):Prop:=heldForkS_p5 (fun w0 w1 w2 w3 w4 w5=>heldForkS_q6 K x0k x1k x2k x3k x4k x5k x6k x7k x8k x9k x10k x11k x12k x13k v0 v1 v2 v3 w0 w1 w2 w3 w4 w5) x0k x1k x2k x3k x4k x5k x6k x7k x8k x9k x10k x11k x12k x13k w0 w1 w2 w3 w4 w5
def heldForkS_q4 (K:List PV→Prop) (x0k:PV→PV→PV→PV→Prop) (x1k x2k x3k x4k x5k x6k x7k x8k x9k x10k x11k x12k x13k:Prop) (v0 v1 v2 v3:PV) (w0 w1 w2 w3 w4 w5:PV):Prop:=heldForkS_p4 (fun w0 w1 w2 w3 w4 w5=>heldForkS_q5 K x0k x1k x2k x3k x4k x5k x6k x7k x8k x9k x10k x11k x12k x13k v0 v1 v2 v3 w0 w1 w2 w3 w4 w5) x0k x1k x2k x3k x4k x5k x6k x7k x8k x9k x10k x11k x12k x13k w0 w1 w2 w3 w4 w5
def heldForkS_q3 (K:List PV→Prop) (x0k:PV→PV→PV→PV→Prop) (x1k x2k x3k x4k x5k x6k x7k x8k x9k x10k x11k x12k x13k:Prop) (v0 v1 v2 v3:PV) (w0 w1 w2 w3 w4 w5:PV):Prop:=heldForkS_p3 (fun w0 w1 w2 w3 w4 w5=>heldForkS_q4 K x0k x1k x2k x3k x4k x5k x6k x7k x8k x9k x10k x11k x12k x13k v0 v1 v2 v3 w0 w1 w2 w3 w4 w5) x0k x1k x2k x3k x4k x5k x6k x7k x8k x9k x10k x11k x12k x13k w0 w1 w2 w3 w4 w5
def heldForkS_q2 (K:List PV→Prop) (x0k:PV→PV→PV→PV→Prop) (x1k x2k x3k x4k x5k x6k x7k x8k x9k x10k x11k x12k x13k:Prop) (v0 v1 v2 v3:PV) (w0 w1 w2 w3 w4 w5:PV):Prop:=heldForkS_p2 (fun w0 w1 w2 w3 w4 w5=>heldForkS_q3 K x0k x1k x2k x3k x4k x5k x6k x7k x8k x9k x10k x11k x12k x13k v0 v1 v2 v3 w0 w1 w2 w3 w4 w5) x0k x1k x2k x3k x4k x5k x6k x7k x8k x9k x10k x11k x12k x13k w0 w1 w2 w3 w4 w5
def heldForkS_q1 (K:List PV→Prop) (x0k:PV→PV→PV→PV→Prop) (x1k x2k x3k x4k x5k x6k x7k x8k x9k x10k x11k x12k x13k:Prop) (v0 v1 v2 v3:PV) (w0 w1 w2 w3 w4 w5:PV):Prop:=heldForkS_p1 (fun w0 w1 w2 w3 w4 w5=>heldForkS_q2 K x0k x1k x2k x3k x4k x5k x6k x7k x8k x9k x10k x11k x12k x13k v0 v1 v2 v3 w0 w1 w2 w3 w4 w5) x0k x1k x2k x3k x4k x5k x6k x7k x8k x9k x10k x11k x12k x13k w0 w1 w2 w3 w4 w5
def heldForkS_q0 (K:List PV→Prop) (x0k:PV→PV→PV→PV→Prop) (x1k x2k x3k x4k x5k x6k x7k x8k x9k x10k x11k x12k x13k:Prop) (v0 v1 v2 v3:PV) (w0 w1 w2 w3 w4:PV):Prop:=heldForkS_p0 (fun w0 w1 w2 w3 w4 w5=>heldForkS_q1 K x0k x1k x2k x3k x4k x5k x6k x7k x8k x9k x10k x11k x12k x13k v0 v1 v2 v3 w0 w1 w2 w3 w4 w5) x0k x1k x2k x3k x4k x5k x6k x7k x8k x9k x10k x11k x12k x13k w0 w1 w2 w3 w4
def Qjp_r0 (v:List PV) (K:List PV→Prop) (x0k:PV→PV→PV→PV→Prop) (x1k x2k x3k x4k x5k x6k x7k x8k x9k x10k x11k x12k x13k:Prop):Prop :=
 un 4 (fun v0 v1 v2 v3=>heldForkS_a (fun w0 w1 w2 w3 w4=>heldForkS_q0 K x0k x1k x2k x3k x4k x5k x6k x7k x8k x9k x10k x11k x12k x13k v0 v1 v2 v3 w0 w1 w2 w3 w4) x0k x1k x2k x3k x4k x5k x6k x7k x8k x9k x10k x11k x12k x13k v0 v1 v2 v3) v
def Qjp:GM
 | [.one a0,.one a1],k =>
  lp (fun L w=>Qjp_r0 w L
   (fun q1 q2 q3 q4=>rt [.sc] [q2] k)
   (rt [.sc] [(I (-1))] k)
   (rt [.sc] [(I (-1))] k)
   (rt [.sc] [(I (-1))] k)
   (rt [.sc] [(I (-1))] k)
   (rt [.sc] [(I (-1))] k)
   (rt [.sc] [(I (-1))] k)
   (rt [.sc] [(I (-1))] k)
   (rt [.sc] [(I (-1))] k)
   (rt [.sc] [(I (-1))] k)
   (rt [.sc] [(I (-1))] k)
   (rt [.sc] [(I (-1))] k)
   (rt [.sc] [(I (-1))] k)
   (rt [.sc] [(I (-1))] k)) [a0,a1,(I 0),(I 0)]
 | _,_=>False
abbrev Qjp_e:Ent:=⟨[184],Qjp⟩
def Qjp_l:List LE:=[⟨none,0,⟨[(0,.one zB),(1,.one zB),(4,.one zB),(5,.one zB)],[],[],0,595,[]⟩,fun K k v=>Qjp_r0 v K (fun x0 x1 x2 x3=>k (.exit 0) (heldForkS_x0 x0 x1 x2 x3)) (k .ret heldForkS_x1) (k .ret heldForkS_x2) (k .ret heldForkS_x3) (k .ret heldForkS_x4) (k .ret heldForkS_x5) (k .ret heldForkS_x6) (k .ret heldForkS_x7) (k .ret heldForkS_x8) (k .ret heldForkS_x9) (k .ret heldForkS_x10) (k .ret heldForkS_x11) (k .ret heldForkS_x12) (k .ret heldForkS_x13)⟩]
noncomputable abbrev heldForkS_S (S2:Sums2):=sxL (orac TT.wind [Qjf_e,Qjh_e] S2) TT.wind (kk [0,1,4,5]) (S2 none)
noncomputable abbrev heldForkS_T:=cutT (kts (kk [0,1,4,5])) (resT Tryz.f184)
noncomputable abbrev heldForkS_c0:Code:=inQ (hdQ (tlQ (loopAt Tryz.f184 0)))
noncomputable abbrev heldForkS_c1:Code:=dropQ 12 heldForkS_c0
noncomputable abbrev heldForkS_c2:Code:=dropQ 12 heldForkS_c1
noncomputable abbrev heldForkS_c3:Code:=dropQ 12 heldForkS_c2
noncomputable abbrev heldForkS_c4:Code:=dropQ 12 heldForkS_c3
noncomputable abbrev heldForkS_c5:Code:=dropQ 12 heldForkS_c4
noncomputable abbrev heldForkS_c6:Code:=dropQ 12 heldForkS_c5
noncomputable abbrev heldForkS_c7:Code:=dropQ 12 heldForkS_c6
noncomputable abbrev heldForkS_c8:Code:=dropQ 12 heldForkS_c7
theorem heldForkS_a_e (S2:Sums2) (kn:Fr→Prop) (k:Out→Fr→Prop) (v0 v1 v2 v3:PV):heldForkS_a (fun w0 w1 w2 w3 w4=>kn (fill heldForkS_F0 [w0,w1,w2,w3,w4])) (fun x0 x1 x2 x3=>k (.exit 0) (heldForkS_x0 x0 x1 x2 x3)) (k .ret heldForkS_x1) (k .ret heldForkS_x2) (k .ret heldForkS_x3) (k .ret heldForkS_x4) (k .ret heldForkS_x5) (k .ret heldForkS_x6) (k .ret heldForkS_x7) (k .ret heldForkS_x8) (k .ret heldForkS_x9) (k .ret heldForkS_x10) (k .ret heldForkS_x11) (k .ret heldForkS_x12) (k .ret heldForkS_x13) v0 v1 v2 v3=heldForkS_S S2 (.seq (hdQ (loopAt Tryz.f184 0)) .skip) 1 (fill heldForkS_H [v0,v1,v2,v3]) (heldForkS_T kn (cutE (kts (kk [0,1,4,5])) (resT Tryz.f184) k) k):=by kernel_rfl
theorem heldForkS_p0_e (S2:Sums2) (kn:Fr→Prop) (ke:Nat→Fr→Prop) (k:Out→Fr→Prop) (w0 w1 w2 w3 w4:PV):heldForkS_p0 (fun w0 w1 w2 w3 w4 w5=>kn (fill heldForkS_F1 [w0,w1,w2,w3,w4,w5])) (fun x0 x1 x2 x3=>k (.exit 0) (heldForkS_x0 x0 x1 x2 x3)) (k .ret heldForkS_x1) (k .ret heldForkS_x2) (k .ret heldForkS_x3) (k .ret heldForkS_x4) (k .ret heldForkS_x5) (k .ret heldForkS_x6) (k .ret heldForkS_x7) (k .ret heldForkS_x8) (k .ret heldForkS_x9) (k .ret heldForkS_x10) (k .ret heldForkS_x11) (k .ret heldForkS_x12) (k .ret heldForkS_x13) w0 w1 w2 w3 w4=heldForkS_S S2 (takeQ 12 heldForkS_c0) 1 (fill heldForkS_F0 [w0,w1,w2,w3,w4]) (heldForkS_T kn ke k):=by kernel_rfl
theorem heldForkS_p1_e (S2:Sums2) (kn:Fr→Prop) (ke:Nat→Fr→Prop) (k:Out→Fr→Prop) (w0 w1 w2 w3 w4 w5:PV):heldForkS_p1 (fun w0 w1 w2 w3 w4 w5=>kn (fill heldForkS_F2 [w0,w1,w2,w3,w4,w5])) (fun x0 x1 x2 x3=>k (.exit 0) (heldForkS_x0 x0 x1 x2 x3)) (k .ret heldForkS_x1) (k .ret heldForkS_x2) (k .ret heldForkS_x3) (k .ret heldForkS_x4) (k .ret heldForkS_x5) (k .ret heldForkS_x6) (k .ret heldForkS_x7) (k .ret heldForkS_x8) (k .ret heldForkS_x9) (k .ret heldForkS_x10) (k .ret heldForkS_x11) (k .ret heldForkS_x12) (k .ret heldForkS_x13) w0 w1 w2 w3 w4 w5=heldForkS_S S2 (takeQ 12 heldForkS_c1) 1 (fill heldForkS_F1 [w0,w1,w2,w3,w4,w5]) (heldForkS_T kn ke k):=by kernel_rfl
theorem heldForkS_p2_e (S2:Sums2) (kn:Fr→Prop) (ke:Nat→Fr→Prop) (k:Out→Fr→Prop) (w0 w1 w2 w3 w4 w5:PV):heldForkS_p2 (fun w0 w1 w2 w3 w4 w5=>kn (fill heldForkS_F3 [w0,w1,w2,w3,w4,w5])) (fun x0 x1 x2 x3=>k (.exit 0) (heldForkS_x0 x0 x1 x2 x3)) (k .ret heldForkS_x1) (k .ret heldForkS_x2) (k .ret heldForkS_x3) (k .ret heldForkS_x4) (k .ret heldForkS_x5) (k .ret heldForkS_x6) (k .ret heldForkS_x7) (k .ret heldForkS_x8) (k .ret heldForkS_x9) (k .ret heldForkS_x10) (k .ret heldForkS_x11) (k .ret heldForkS_x12) (k .ret heldForkS_x13) w0 w1 w2 w3 w4 w5=heldForkS_S S2 (takeQ 12 heldForkS_c2) 1 (fill heldForkS_F2 [w0,w1,w2,w3,w4,w5]) (heldForkS_T kn ke k):=by kernel_rfl
theorem heldForkS_p3_e (S2:Sums2) (kn:Fr→Prop) (ke:Nat→Fr→Prop) (k:Out→Fr→Prop) (w0 w1 w2 w3 w4 w5:PV):heldForkS_p3 (fun w0 w1 w2 w3 w4 w5=>kn (fill heldForkS_F4 [w0,w1,w2,w3,w4,w5])) (fun x0 x1 x2 x3=>k (.exit 0) (heldForkS_x0 x0 x1 x2 x3)) (k .ret heldForkS_x1) (k .ret heldForkS_x2) (k .ret heldForkS_x3) (k .ret heldForkS_x4) (k .ret heldForkS_x5) (k .ret heldForkS_x6) (k .ret heldForkS_x7) (k .ret heldForkS_x8) (k .ret heldForkS_x9) (k .ret heldForkS_x10) (k .ret heldForkS_x11) (k .ret heldForkS_x12) (k .ret heldForkS_x13) w0 w1 w2 w3 w4 w5=heldForkS_S S2 (takeQ 12 heldForkS_c3) 1 (fill heldForkS_F3 [w0,w1,w2,w3,w4,w5]) (heldForkS_T kn ke k):=by kernel_rfl
theorem heldForkS_p4_e (S2:Sums2) (kn:Fr→Prop) (ke:Nat→Fr→Prop) (k:Out→Fr→Prop) (w0 w1 w2 w3 w4 w5:PV):heldForkS_p4 (fun w0 w1 w2 w3 w4 w5=>kn (fill heldForkS_F5 [w0,w1,w2,w3,w4,w5])) (fun x0 x1 x2 x3=>k (.exit 0) (heldForkS_x0 x0 x1 x2 x3)) (k .ret heldForkS_x1) (k .ret heldForkS_x2) (k .ret heldForkS_x3) (k .ret heldForkS_x4) (k .ret heldForkS_x5) (k .ret heldForkS_x6) (k .ret heldForkS_x7) (k .ret heldForkS_x8) (k .ret heldForkS_x9) (k .ret heldForkS_x10) (k .ret heldForkS_x11) (k .ret heldForkS_x12) (k .ret heldForkS_x13) w0 w1 w2 w3 w4 w5=heldForkS_S S2 (takeQ 12 heldForkS_c4) 1 (fill heldForkS_F4 [w0,w1,w2,w3,w4,w5]) (heldForkS_T kn ke k):=by kernel_rfl
theorem heldForkS_p5_e (S2:Sums2) (kn:Fr→Prop) (ke:Nat→Fr→Prop) (k:Out→Fr→Prop) (w0 w1 w2 w3 w4 w5:PV):heldForkS_p5 (fun w0 w1 w2 w3 w4 w5=>kn (fill heldForkS_F6 [w0,w1,w2,w3,w4,w5])) (fun x0 x1 x2 x3=>k (.exit 0) (heldForkS_x0 x0 x1 x2 x3)) (k .ret heldForkS_x1) (k .ret heldForkS_x2) (k .ret heldForkS_x3) (k .ret heldForkS_x4) (k .ret heldForkS_x5) (k .ret heldForkS_x6) (k .ret heldForkS_x7) (k .ret heldForkS_x8) (k .ret heldForkS_x9) (k .ret heldForkS_x10) (k .ret heldForkS_x11) (k .ret heldForkS_x12) (k .ret heldForkS_x13) w0 w1 w2 w3 w4 w5=heldForkS_S S2 (takeQ 12 heldForkS_c5) 1 (fill heldForkS_F5 [w0,w1,w2,w3,w4,w5]) (heldForkS_T kn ke k):=by kernel_rfl
theorem heldForkS_p6_e (S2:Sums2) (kn:Fr→Prop) (ke:Nat→Fr→Prop) (k:Out→Fr→Prop) (w0 w1 w2 w3 w4 w5:PV):heldForkS_p6 (fun w0 w1 w2 w3 w4 w5=>kn (fill heldForkS_F7 [w0,w1,w2,w3,w4,w5])) (fun x0 x1 x2 x3=>k (.exit 0) (heldForkS_x0 x0 x1 x2 x3)) (k .ret heldForkS_x1) (k .ret heldForkS_x2) (k .ret heldForkS_x3) (k .ret heldForkS_x4) (k .ret heldForkS_x5) (k .ret heldForkS_x6) (k .ret heldForkS_x7) (k .ret heldForkS_x8) (k .ret heldForkS_x9) (k .ret heldForkS_x10) (k .ret heldForkS_x11) (k .ret heldForkS_x12) (k .ret heldForkS_x13) w0 w1 w2 w3 w4 w5=heldForkS_S S2 (takeQ 12 heldForkS_c6) 1 (fill heldForkS_F6 [w0,w1,w2,w3,w4,w5]) (heldForkS_T kn ke k):=by kernel_rfl
theorem heldForkS_p7_e (S2:Sums2) (kn:Fr→Prop) (ke:Nat→Fr→Prop) (k:Out→Fr→Prop) (w0 w1 w2 w3 w4 w5:PV):heldForkS_p7 (fun w0 w1 w2 w3 w4=>kn (fill heldForkS_F8 [w0,w1,w2,w3,w4])) (fun x0 x1 x2 x3=>k (.exit 0) (heldForkS_x0 x0 x1 x2 x3)) (k .ret heldForkS_x1) (k .ret heldForkS_x2) (k .ret heldForkS_x3) (k .ret heldForkS_x4) (k .ret heldForkS_x5) (k .ret heldForkS_x6) (k .ret heldForkS_x7) (k .ret heldForkS_x8) (k .ret heldForkS_x9) (k .ret heldForkS_x10) (k .ret heldForkS_x11) (k .ret heldForkS_x12) (k .ret heldForkS_x13) w0 w1 w2 w3 w4 w5=heldForkS_S S2 (takeQ 12 heldForkS_c7) 1 (fill heldForkS_F7 [w0,w1,w2,w3,w4,w5]) (heldForkS_T kn ke k):=by kernel_rfl
theorem heldForkS_p8_e (S2:Sums2) (kn:Fr→Prop) (ke:Nat→Fr→Prop) (k:Out→Fr→Prop) (w0 w1 w2 w3 w4:PV):heldForkS_p8 (fun w0 w1 w2 w3 w4=>kn (fill heldForkS_F9 [w0,w1,w2,w3,w4])) (fun x0 x1 x2 x3=>k (.exit 0) (heldForkS_x0 x0 x1 x2 x3)) (k .ret heldForkS_x1) (k .ret heldForkS_x2) (k .ret heldForkS_x3) (k .ret heldForkS_x4) (k .ret heldForkS_x5) (k .ret heldForkS_x6) (k .ret heldForkS_x7) (k .ret heldForkS_x8) (k .ret heldForkS_x9) (k .ret heldForkS_x10) (k .ret heldForkS_x11) (k .ret heldForkS_x12) (k .ret heldForkS_x13) w0 w1 w2 w3 w4=heldForkS_S S2 heldForkS_c8 1 (fill heldForkS_F8 [w0,w1,w2,w3,w4]) (heldForkS_T (fun F=>trimK TT.wind.win (kk [0,1,4,5]) F kn) ke k):=by kernel_rfl
abbrev heldForkS_R (S2:Sums2) (K:List PV→Prop) (k:Out→Fr→Prop) (v0 v1 v2 v3:PV) (F:Fr):Prop:=heldForkS_S S2 (tlQ (tlQ (loopAt Tryz.f184 0))) 1 F (heldForkS_T (cutH (fill heldForkS_H [v0,v1,v2,v3]) heldForkS_H K) (cutE (kts (kk [0,1,4,5])) (resT Tryz.f184) k) k)
theorem heldForkS_q9_e (S2:Sums2) (K:List PV→Prop) (k:Out→Fr→Prop) (v0 v1 v2 v3:PV) (w0 w1 w2 w3 w4:PV):heldForkS_q9 K (fun x0 x1 x2 x3=>k (.exit 0) (heldForkS_x0 x0 x1 x2 x3)) (k .ret heldForkS_x1) (k .ret heldForkS_x2) (k .ret heldForkS_x3) (k .ret heldForkS_x4) (k .ret heldForkS_x5) (k .ret heldForkS_x6) (k .ret heldForkS_x7) (k .ret heldForkS_x8) (k .ret heldForkS_x9) (k .ret heldForkS_x10) (k .ret heldForkS_x11) (k .ret heldForkS_x12) (k .ret heldForkS_x13) v0 v1 v2 v3 w0 w1 w2 w3 w4=heldForkS_R S2 K k v0 v1 v2 v3 (fill heldForkS_F9 [w0,w1,w2,w3,w4]):=by kernel_rfl
abbrev heldForkS_B (S2:Sums2) (K:List PV→Prop) (k:Out→Fr→Prop) (v0 v1 v2 v3:PV):Fr→Prop:=fun F=>trimK TT.wind.win (kk [0,1,4,5]) F fun F=>heldForkS_R S2 K k v0 v1 v2 v3 F
theorem heldForkS_q8_e (S2:Sums2) (K:List PV→Prop) (ke:Nat→Fr→Prop) (k:Out→Fr→Prop) (v0 v1 v2 v3:PV) (w0 w1 w2 w3 w4:PV):heldForkS_q8 K (fun x0 x1 x2 x3=>k (.exit 0) (heldForkS_x0 x0 x1 x2 x3)) (k .ret heldForkS_x1) (k .ret heldForkS_x2) (k .ret heldForkS_x3) (k .ret heldForkS_x4) (k .ret heldForkS_x5) (k .ret heldForkS_x6) (k .ret heldForkS_x7) (k .ret heldForkS_x8) (k .ret heldForkS_x9) (k .ret heldForkS_x10) (k .ret heldForkS_x11) (k .ret heldForkS_x12) (k .ret heldForkS_x13) v0 v1 v2 v3 w0 w1 w2 w3 w4=heldForkS_S S2 heldForkS_c8 1 (fill heldForkS_F8 [w0,w1,w2,w3,w4]) (heldForkS_T (heldForkS_B S2 K k v0 v1 v2 v3) ke k) :=
 (congrArg (fun q=>heldForkS_p8 q (fun x0 x1 x2 x3=>k (.exit 0) (heldForkS_x0 x0 x1 x2 x3)) (k .ret heldForkS_x1) (k .ret heldForkS_x2) (k .ret heldForkS_x3) (k .ret heldForkS_x4) (k .ret heldForkS_x5) (k .ret heldForkS_x6) (k .ret heldForkS_x7) (k .ret heldForkS_x8) (k .ret heldForkS_x9) (k .ret heldForkS_x10) (k .ret heldForkS_x11) (k .ret heldForkS_x12) (k .ret heldForkS_x13) w0 w1 w2 w3 w4) (funext fun w0=>funext fun w1=>funext fun w2=>funext fun w3=>funext fun w4=>heldForkS_q9_e S2 K k v0 v1 v2 v3 w0 w1 w2 w3 w4)).trans ((heldForkS_p8_e S2 (fun F=>heldForkS_R S2 K k v0 v1 v2 v3 F) ke k w0 w1 w2 w3 w4))
theorem heldForkS_q7_e (S2:Sums2) (K:List PV→Prop) (ke:Nat→Fr→Prop) (k:Out→Fr→Prop) (v0 v1 v2 v3:PV) (w0 w1 w2 w3 w4 w5:PV):heldForkS_q7 K (fun x0 x1 x2 x3=>k (.exit 0) (heldForkS_x0 x0 x1 x2 x3)) (k .ret heldForkS_x1) (k .ret heldForkS_x2) (k .ret heldForkS_x3) (k .ret heldForkS_x4) (k .ret heldForkS_x5) (k .ret heldForkS_x6) (k .ret heldForkS_x7) (k .ret heldForkS_x8) (k .ret heldForkS_x9) (k .ret heldForkS_x10) (k .ret heldForkS_x11) (k .ret heldForkS_x12) (k .ret heldForkS_x13) v0 v1 v2 v3 w0 w1 w2 w3 w4 w5=heldForkS_S S2 heldForkS_c7 1 (fill heldForkS_F7 [w0,w1,w2,w3,w4,w5]) (heldForkS_T (heldForkS_B S2 K k v0 v1 v2 v3) ke k) :=
 (congrArg (fun q=>heldForkS_p7 q (fun x0 x1 x2 x3=>k (.exit 0) (heldForkS_x0 x0 x1 x2 x3)) (k .ret heldForkS_x1) (k .ret heldForkS_x2) (k .ret heldForkS_x3) (k .ret heldForkS_x4) (k .ret heldForkS_x5) (k .ret heldForkS_x6) (k .ret heldForkS_x7) (k .ret heldForkS_x8) (k .ret heldForkS_x9) (k .ret heldForkS_x10) (k .ret heldForkS_x11) (k .ret heldForkS_x12) (k .ret heldForkS_x13) w0 w1 w2 w3 w4 w5) (funext fun w0=>funext fun w1=>funext fun w2=>funext fun w3=>funext fun w4=>heldForkS_q8_e S2 K ke k v0 v1 v2 v3 w0 w1 w2 w3 w4)).trans ((heldForkS_p7_e S2 (fun F=>heldForkS_S S2 heldForkS_c8 1 F (heldForkS_T (heldForkS_B S2 K k v0 v1 v2 v3) ke k)) ke k w0 w1 w2 w3 w4 w5).trans (part_step 12 heldForkS_c7 (by kernel_rfl)))
theorem heldForkS_q6_e (S2:Sums2) (K:List PV→Prop) (ke:Nat→Fr→Prop) (k:Out→Fr→Prop) (v0 v1 v2 v3:PV) (w0 w1 w2 w3 w4 w5:PV):heldForkS_q6 K (fun x0 x1 x2 x3=>k (.exit 0) (heldForkS_x0 x0 x1 x2 x3)) (k .ret heldForkS_x1) (k .ret heldForkS_x2) (k .ret heldForkS_x3) (k .ret heldForkS_x4) (k .ret heldForkS_x5) (k .ret heldForkS_x6) (k .ret heldForkS_x7) (k .ret heldForkS_x8) (k .ret heldForkS_x9) (k .ret heldForkS_x10) (k .ret heldForkS_x11) (k .ret heldForkS_x12) (k .ret heldForkS_x13) v0 v1 v2 v3 w0 w1 w2 w3 w4 w5=heldForkS_S S2 heldForkS_c6 1 (fill heldForkS_F6 [w0,w1,w2,w3,w4,w5]) (heldForkS_T (heldForkS_B S2 K k v0 v1 v2 v3) ke k) :=
 (congrArg (fun q=>heldForkS_p6 q (fun x0 x1 x2 x3=>k (.exit 0) (heldForkS_x0 x0 x1 x2 x3)) (k .ret heldForkS_x1) (k .ret heldForkS_x2) (k .ret heldForkS_x3) (k .ret heldForkS_x4) (k .ret heldForkS_x5) (k .ret heldForkS_x6) (k .ret heldForkS_x7) (k .ret heldForkS_x8) (k .ret heldForkS_x9) (k .ret heldForkS_x10) (k .ret heldForkS_x11) (k .ret heldForkS_x12) (k .ret heldForkS_x13) w0 w1 w2 w3 w4 w5) (funext fun w0=>funext fun w1=>funext fun w2=>funext fun w3=>funext fun w4=>funext fun w5=>heldForkS_q7_e S2 K ke k v0 v1 v2 v3 w0 w1 w2 w3 w4 w5)).trans ((heldForkS_p6_e S2 (fun F=>heldForkS_S S2 heldForkS_c7 1 F (heldForkS_T (heldForkS_B S2 K k v0 v1 v2 v3) ke k)) ke k w0 w1 w2 w3 w4 w5).trans (part_step 12 heldForkS_c6 (by kernel_rfl)))
theorem heldForkS_q5_e (S2:Sums2) (K:List PV→Prop) (ke:Nat→Fr→Prop) (k:Out→Fr→Prop) (v0 v1 v2 v3:PV) (w0 w1 w2 w3 w4 w5:PV):heldForkS_q5 K (fun x0 x1 x2 x3=>k (.exit 0) (heldForkS_x0 x0 x1 x2 x3)) (k .ret heldForkS_x1) (k .ret heldForkS_x2) (k .ret heldForkS_x3) (k .ret heldForkS_x4) (k .ret heldForkS_x5) (k .ret heldForkS_x6) (k .ret heldForkS_x7) (k .ret heldForkS_x8) (k .ret heldForkS_x9) (k .ret heldForkS_x10) (k .ret heldForkS_x11) (k .ret heldForkS_x12) (k .ret heldForkS_x13) v0 v1 v2 v3 w0 w1 w2 w3 w4 w5=heldForkS_S S2 heldForkS_c5 1 (fill heldForkS_F5 [w0,w1,w2,w3,w4,w5]) (heldForkS_T (heldForkS_B S2 K k v0 v1 v2 v3) ke k) :=
 (congrArg (fun q=>heldForkS_p5 q (fun x0 x1 x2 x3=>k (.exit 0) (heldForkS_x0 x0 x1 x2 x3)) (k .ret heldForkS_x1) (k .ret heldForkS_x2) (k .ret heldForkS_x3) (k .ret heldForkS_x4) (k .ret heldForkS_x5) (k .ret heldForkS_x6) (k .ret heldForkS_x7) (k .ret heldForkS_x8) (k .ret heldForkS_x9) (k .ret heldForkS_x10) (k .ret heldForkS_x11) (k .ret heldForkS_x12) (k .ret heldForkS_x13) w0 w1 w2 w3 w4 w5) (funext fun w0=>funext fun w1=>funext fun w2=>funext fun w3=>funext fun w4=>funext fun w5=>heldForkS_q6_e S2 K ke k v0 v1 v2 v3 w0 w1 w2 w3 w4 w5)).trans ((heldForkS_p5_e S2 (fun F=>heldForkS_S S2 heldForkS_c6 1 F (heldForkS_T (heldForkS_B S2 K k v0 v1 v2 v3) ke k)) ke k w0 w1 w2 w3 w4 w5).trans (part_step 12 heldForkS_c5 (by kernel_rfl)))
theorem heldForkS_q4_e (S2:Sums2) (K:List PV→Prop) (ke:Nat→Fr→Prop) (k:Out→Fr→Prop) (v0 v1 v2 v3:PV) (w0 w1 w2 w3 w4 w5:PV):heldForkS_q4 K (fun x0 x1 x2 x3=>k (.exit 0) (heldForkS_x0 x0 x1 x2 x3)) (k .ret heldForkS_x1) (k .ret heldForkS_x2) (k .ret heldForkS_x3) (k .ret heldForkS_x4) (k .ret heldForkS_x5) (k .ret heldForkS_x6) (k .ret heldForkS_x7) (k .ret heldForkS_x8) (k .ret heldForkS_x9) (k .ret heldForkS_x10) (k .ret heldForkS_x11) (k .ret heldForkS_x12) (k .ret heldForkS_x13) v0 v1 v2 v3 w0 w1 w2 w3 w4 w5=heldForkS_S S2 heldForkS_c4 1 (fill heldForkS_F4 [w0,w1,w2,w3,w4,w5]) (heldForkS_T (heldForkS_B S2 K k v0 v1 v2 v3) ke k) :=
 (congrArg (fun q=>heldForkS_p4 q (fun x0 x1 x2 x3=>k (.exit 0) (heldForkS_x0 x0 x1 x2 x3)) (k .ret heldForkS_x1) (k .ret heldForkS_x2) (k .ret heldForkS_x3) (k .ret heldForkS_x4) (k .ret heldForkS_x5) (k .ret heldForkS_x6) (k .ret heldForkS_x7) (k .ret heldForkS_x8) (k .ret heldForkS_x9) (k .ret heldForkS_x10) (k .ret heldForkS_x11) (k .ret heldForkS_x12) (k .ret heldForkS_x13) w0 w1 w2 w3 w4 w5) (funext fun w0=>funext fun w1=>funext fun w2=>funext fun w3=>funext fun w4=>funext fun w5=>heldForkS_q5_e S2 K ke k v0 v1 v2 v3 w0 w1 w2 w3 w4 w5)).trans ((heldForkS_p4_e S2 (fun F=>heldForkS_S S2 heldForkS_c5 1 F (heldForkS_T (heldForkS_B S2 K k v0 v1 v2 v3) ke k)) ke k w0 w1 w2 w3 w4 w5).trans (part_step 12 heldForkS_c4 (by kernel_rfl)))
theorem heldForkS_q3_e (S2:Sums2) (K:List PV→Prop) (ke:Nat→Fr→Prop) (k:Out→Fr→Prop) (v0 v1 v2 v3:PV) (w0 w1 w2 w3 w4 w5:PV):heldForkS_q3 K (fun x0 x1 x2 x3=>k (.exit 0) (heldForkS_x0 x0 x1 x2 x3)) (k .ret heldForkS_x1) (k .ret heldForkS_x2) (k .ret heldForkS_x3) (k .ret heldForkS_x4) (k .ret heldForkS_x5) (k .ret heldForkS_x6) (k .ret heldForkS_x7) (k .ret heldForkS_x8) (k .ret heldForkS_x9) (k .ret heldForkS_x10) (k .ret heldForkS_x11) (k .ret heldForkS_x12) (k .ret heldForkS_x13) v0 v1 v2 v3 w0 w1 w2 w3 w4 w5=heldForkS_S S2 heldForkS_c3 1 (fill heldForkS_F3 [w0,w1,w2,w3,w4,w5]) (heldForkS_T (heldForkS_B S2 K k v0 v1 v2 v3) ke k) :=
 (congrArg (fun q=>heldForkS_p3 q (fun x0 x1 x2 x3=>k (.exit 0) (heldForkS_x0 x0 x1 x2 x3)) (k .ret heldForkS_x1) (k .ret heldForkS_x2) (k .ret heldForkS_x3) (k .ret heldForkS_x4) (k .ret heldForkS_x5) (k .ret heldForkS_x6) (k .ret heldForkS_x7) (k .ret heldForkS_x8) (k .ret heldForkS_x9) (k .ret heldForkS_x10) (k .ret heldForkS_x11) (k .ret heldForkS_x12) (k .ret heldForkS_x13) w0 w1 w2 w3 w4 w5) (funext fun w0=>funext fun w1=>funext fun w2=>funext fun w3=>funext fun w4=>funext fun w5=>heldForkS_q4_e S2 K ke k v0 v1 v2 v3 w0 w1 w2 w3 w4 w5)).trans ((heldForkS_p3_e S2 (fun F=>heldForkS_S S2 heldForkS_c4 1 F (heldForkS_T (heldForkS_B S2 K k v0 v1 v2 v3) ke k)) ke k w0 w1 w2 w3 w4 w5).trans (part_step 12 heldForkS_c3 (by kernel_rfl)))
theorem heldForkS_q2_e (S2:Sums2) (K:List PV→Prop) (ke:Nat→Fr→Prop) (k:Out→Fr→Prop) (v0 v1 v2 v3:PV) (w0 w1 w2 w3 w4 w5:PV):heldForkS_q2 K (fun x0 x1 x2 x3=>k (.exit 0) (heldForkS_x0 x0 x1 x2 x3)) (k .ret heldForkS_x1) (k .ret heldForkS_x2) (k .ret heldForkS_x3) (k .ret heldForkS_x4) (k .ret heldForkS_x5) (k .ret heldForkS_x6) (k .ret heldForkS_x7) (k .ret heldForkS_x8) (k .ret heldForkS_x9) (k .ret heldForkS_x10) (k .ret heldForkS_x11) (k .ret heldForkS_x12) (k .ret heldForkS_x13) v0 v1 v2 v3 w0 w1 w2 w3 w4 w5=heldForkS_S S2 heldForkS_c2 1 (fill heldForkS_F2 [w0,w1,w2,w3,w4,w5]) (heldForkS_T (heldForkS_B S2 K k v0 v1 v2 v3) ke k) :=
 (congrArg (fun q=>heldForkS_p2 q (fun x0 x1 x2 x3=>k (.exit 0) (heldForkS_x0 x0 x1 x2 x3)) (k .ret heldForkS_x1) (k .ret heldForkS_x2) (k .ret heldForkS_x3) (k .ret heldForkS_x4) (k .ret heldForkS_x5) (k .ret heldForkS_x6) (k .ret heldForkS_x7) (k .ret heldForkS_x8) (k .ret heldForkS_x9) (k .ret heldForkS_x10) (k .ret heldForkS_x11) (k .ret heldForkS_x12) (k .ret heldForkS_x13) w0 w1 w2 w3 w4 w5) (funext fun w0=>funext fun w1=>funext fun w2=>funext fun w3=>funext fun w4=>funext fun w5=>heldForkS_q3_e S2 K ke k v0 v1 v2 v3 w0 w1 w2 w3 w4 w5)).trans ((heldForkS_p2_e S2 (fun F=>heldForkS_S S2 heldForkS_c3 1 F (heldForkS_T (heldForkS_B S2 K k v0 v1 v2 v3) ke k)) ke k w0 w1 w2 w3 w4 w5).trans (part_step 12 heldForkS_c2 (by kernel_rfl)))
theorem heldForkS_q1_e (S2:Sums2) (K:List PV→Prop) (ke:Nat→Fr→Prop) (k:Out→Fr→Prop) (v0 v1 v2 v3:PV) (w0 w1 w2 w3 w4 w5:PV):heldForkS_q1 K (fun x0 x1 x2 x3=>k (.exit 0) (heldForkS_x0 x0 x1 x2 x3)) (k .ret heldForkS_x1) (k .ret heldForkS_x2) (k .ret heldForkS_x3) (k .ret heldForkS_x4) (k .ret heldForkS_x5) (k .ret heldForkS_x6) (k .ret heldForkS_x7) (k .ret heldForkS_x8) (k .ret heldForkS_x9) (k .ret heldForkS_x10) (k .ret heldForkS_x11) (k .ret heldForkS_x12) (k .ret heldForkS_x13) v0 v1 v2 v3 w0 w1 w2 w3 w4 w5=heldForkS_S S2 heldForkS_c1 1 (fill heldForkS_F1 [w0,w1,w2,w3,w4,w5]) (heldForkS_T (heldForkS_B S2 K k v0 v1 v2 v3) ke k) :=
 (congrArg (fun q=>heldForkS_p1 q (fun x0 x1 x2 x3=>k (.exit 0) (heldForkS_x0 x0 x1 x2 x3)) (k .ret heldForkS_x1) (k .ret heldForkS_x2) (k .ret heldForkS_x3) (k .ret heldForkS_x4) (k .ret heldForkS_x5) (k .ret heldForkS_x6) (k .ret heldForkS_x7) (k .ret heldForkS_x8) (k .ret heldForkS_x9) (k .ret heldForkS_x10) (k .ret heldForkS_x11) (k .ret heldForkS_x12) (k .ret heldForkS_x13) w0 w1 w2 w3 w4 w5) (funext fun w0=>funext fun w1=>funext fun w2=>funext fun w3=>funext fun w4=>funext fun w5=>heldForkS_q2_e S2 K ke k v0 v1 v2 v3 w0 w1 w2 w3 w4 w5)).trans ((heldForkS_p1_e S2 (fun F=>heldForkS_S S2 heldForkS_c2 1 F (heldForkS_T (heldForkS_B S2 K k v0 v1 v2 v3) ke k)) ke k w0 w1 w2 w3 w4 w5).trans (part_step 12 heldForkS_c1 (by kernel_rfl)))
theorem heldForkS_q0_e (S2:Sums2) (K:List PV→Prop) (ke:Nat→Fr→Prop) (k:Out→Fr→Prop) (v0 v1 v2 v3:PV) (w0 w1 w2 w3 w4:PV):heldForkS_q0 K (fun x0 x1 x2 x3=>k (.exit 0) (heldForkS_x0 x0 x1 x2 x3)) (k .ret heldForkS_x1) (k .ret heldForkS_x2) (k .ret heldForkS_x3) (k .ret heldForkS_x4) (k .ret heldForkS_x5) (k .ret heldForkS_x6) (k .ret heldForkS_x7) (k .ret heldForkS_x8) (k .ret heldForkS_x9) (k .ret heldForkS_x10) (k .ret heldForkS_x11) (k .ret heldForkS_x12) (k .ret heldForkS_x13) v0 v1 v2 v3 w0 w1 w2 w3 w4=heldForkS_S S2 heldForkS_c0 1 (fill heldForkS_F0 [w0,w1,w2,w3,w4]) (heldForkS_T (heldForkS_B S2 K k v0 v1 v2 v3) ke k) :=
 (congrArg (fun q=>heldForkS_p0 q (fun x0 x1 x2 x3=>k (.exit 0) (heldForkS_x0 x0 x1 x2 x3)) (k .ret heldForkS_x1) (k .ret heldForkS_x2) (k .ret heldForkS_x3) (k .ret heldForkS_x4) (k .ret heldForkS_x5) (k .ret heldForkS_x6) (k .ret heldForkS_x7) (k .ret heldForkS_x8) (k .ret heldForkS_x9) (k .ret heldForkS_x10) (k .ret heldForkS_x11) (k .ret heldForkS_x12) (k .ret heldForkS_x13) w0 w1 w2 w3 w4) (funext fun w0=>funext fun w1=>funext fun w2=>funext fun w3=>funext fun w4=>funext fun w5=>heldForkS_q1_e S2 K ke k v0 v1 v2 v3 w0 w1 w2 w3 w4 w5)).trans ((heldForkS_p0_e S2 (fun F=>heldForkS_S S2 heldForkS_c1 1 F (heldForkS_T (heldForkS_B S2 K k v0 v1 v2 v3) ke k)) ke k w0 w1 w2 w3 w4).trans (part_step 12 heldForkS_c0 (by kernel_rfl)))
theorem heldForkS_e (S2:Sums2) (K:List PV→Prop) (k:Out→Fr→Prop) (v0 v1 v2 v3:PV):heldForkS_a (fun w0 w1 w2 w3 w4=>heldForkS_q0 K (fun x0 x1 x2 x3=>k (.exit 0) (heldForkS_x0 x0 x1 x2 x3)) (k .ret heldForkS_x1) (k .ret heldForkS_x2) (k .ret heldForkS_x3) (k .ret heldForkS_x4) (k .ret heldForkS_x5) (k .ret heldForkS_x6) (k .ret heldForkS_x7) (k .ret heldForkS_x8) (k .ret heldForkS_x9) (k .ret heldForkS_x10) (k .ret heldForkS_x11) (k .ret heldForkS_x12) (k .ret heldForkS_x13) v0 v1 v2 v3 w0 w1 w2 w3 w4) (fun x0 x1 x2 x3=>k (.exit 0) (heldForkS_x0 x0 x1 x2 x3)) (k .ret heldForkS_x1) (k .ret heldForkS_x2) (k .ret heldForkS_x3) (k .ret heldForkS_x4) (k .ret heldForkS_x5) (k .ret heldForkS_x6) (k .ret heldForkS_x7) (k .ret heldForkS_x8) (k .ret heldForkS_x9) (k .ret heldForkS_x10) (k .ret heldForkS_x11) (k .ret heldForkS_x12) (k .ret heldForkS_x13) v0 v1 v2 v3=roundN (fun F k=>sxL (orac TT.wind [Qjf_e,Qjh_e] S2) TT.wind (kk [0,1,4,5]) (S2 none) (loopAt Tryz.f184 0) 1 F k) (fun o F=>k o (trimO (kts (kk [0,1,4,5])) (resT Tryz.f184) o F)) (fun F=>chk heldForkS_H F K) (fill heldForkS_H [v0,v1,v2,v3]):=by
 obtain ⟨ke,h⟩:=round_cut (C:=(orac TT.wind [Qjf_e,Qjh_e] S2)) (T:=TT.wind) (keep:=(kk [0,1,4,5])) (S:=S2 none) (ks:=kts (kk [0,1,4,5])) (rs:=resT Tryz.f184) (kn:=cutH (fill heldForkS_H [v0,v1,v2,v3]) heldForkS_H K) (k:=k) (i:=1) (b:=1) (F:=fill heldForkS_H [v0,v1,v2,v3]) (loopAt Tryz.f184 0) (by kernel_rfl) (by kernel_rfl) (by kernel_rfl)
 rw [round_is,←h]
 exact (congrArg (fun q=>heldForkS_a q (fun x0 x1 x2 x3=>k (.exit 0) (heldForkS_x0 x0 x1 x2 x3)) (k .ret heldForkS_x1) (k .ret heldForkS_x2) (k .ret heldForkS_x3) (k .ret heldForkS_x4) (k .ret heldForkS_x5) (k .ret heldForkS_x6) (k .ret heldForkS_x7) (k .ret heldForkS_x8) (k .ret heldForkS_x9) (k .ret heldForkS_x10) (k .ret heldForkS_x11) (k .ret heldForkS_x12) (k .ret heldForkS_x13) v0 v1 v2 v3) (funext fun w0=>funext fun w1=>funext fun w2=>funext fun w3=>funext fun w4=>heldForkS_q0_e S2 K ke k v0 v1 v2 v3 w0 w1 w2 w3 w4)).trans (heldForkS_a_e S2 (fun F=>heldForkS_S S2 heldForkS_c0 1 F (heldForkS_T (heldForkS_B S2 K k v0 v1 v2 v3) ke k)) k v0 v1 v2 v3)
theorem Qjp_s:LEsOK [Qjf_e,Qjh_e] TT.wind (kk [0,1,4,5]) Qjp_l Tryz.f184 Qjp_l:=⟨fun v K k h=>by
 apply un_all h;exact fun v0 v1 v2 v3 h=>(heldForkS_e _ K k v0 v1 v2 v3).mp h
 ,trivial⟩
theorem Qjp_w:EntOK Tryz.prog TT Qjp_e:=okW_ tabok (L:=[Qjf_e,Qjh_e]) ⟨Qjf_w,Qjh_w,trivial⟩ (keep:=(kk [0,1,4,5])) (l:=Qjp_l) Tryz.func184 Qjp_s fun av k h=>by
 unfold Qjp at h;split at h
 ·exact km h
 ·exact h.elim
def Qjq:GM
 | [.agg u0,.one a2],k=>un 2 (fun a0 a1 =>
  call Qjo [.one a0,.one a2] fun o0 =>
  binP .lss (atP o0 0) (I 0) fun r1 =>
  iteP r1
   (rt [.sc] [(I (-1))] k)
   (call Qjp [.one a1,.one (atP o0 0)] fun o2 =>
   binP .lss (atP o2 0) (I 0) fun r3 =>
   iteP r3
    (rt [.sc] [(I (-1))] k)
    (rt [.sc] [(atP o2 0)] k))) u0
 | _,_=>False
abbrev Qjq_e:Ent:=⟨[100],Qjq⟩
theorem Qjq_w:EntOK Tryz.prog TT Qjq_e:=okF_ tabok (L:=[Qjo_e,Qjp_e]) ⟨Qjo_w,Qjp_w,trivial⟩ (keep:=[]) (l:=[]) Tryz.func100 trivial fun av k h=>by
 unfold Qjq at h;split at h
 ·apply un_all h;clear h;intro a0 a1 h;exact km h
 ·exact h.elim
def Qjr_r0 (v:List PV) (K:List PV→Prop) (x0k:Prop) (x1k:Prop) (x2k:Prop) (x3k:Prop) (x4k:Prop) (x5k:Prop) (x6k:Prop) (x7k:Prop) (x8k:Prop) (x9k:Prop) (x10k:Prop) (x11k:Prop) (x12k:PV→PV→PV→PV→Prop):Prop :=
 un 4 (fun v0 v1 v2 v3 =>
  lenP v0 fun r0 =>
  binP .lss v3 r0 fun r1 =>
  iteP r1
   (elemP 23 v0 v3 fun c2 =>
   binP .neq (atP c2 0) v1 fun r3 =>
   iteP r3
    (x0k)
    (binP .add v1 (I 1) fun r4 =>
    elemP 23 v0 v3 fun c5 =>
    call laws_markText [.one r4] fun o6 =>
    binP .neq (atP c5 1) (atP o6 0) fun r7 =>
    iteP r7
     (x1k)
     (binP .add r4 (I 1) fun r8 =>
     elemP 23 v0 v3 fun c9 =>
     call Qji [.one (atP c9 2),.one r8] fun o10 =>
     binP .lss (atP o10 0) (I 0) fun r11 =>
     iteP r11
      (x2k)
      (elemP 23 v0 v3 fun c12 =>
      binP .rem (atP o10 0) (I 3) fun r13 =>
      binP .eql r13 (I 0) fun r14 =>
      boolP .neq (atP c12 3) r14 fun r15 =>
      iteP r15
       (x2k)
       (binP .add (atP o10 0) (I 1) fun r16 =>
       elemP 23 v0 v3 fun c17 =>
       call laws_markText [.one r16] fun o18 =>
       binP .neq (atP c17 4) (atP o18 0) fun r19 =>
       iteP r19
        (x3k)
        (binP .add r16 (I 1) fun r20 =>
        elemP 23 v0 v3 fun c21 =>
        binP .neq (atP c21 5) r20 fun r22 =>
        iteP r22
         (x3k)
         (binP .add r20 (I 1) fun r23 =>
         elemP 23 v0 v3 fun c24 =>
         binP .neq (atP c24 6) r23 fun r25 =>
         iteP r25
          (x3k)
          (binP .add r23 (I 1) fun r26 =>
          elemP 23 v0 v3 fun c27 =>
          call Qjj [.one (atP c27 7),.one r26] fun o28 =>
          binP .lss (atP o28 0) (I 0) fun r29 =>
          iteP r29
           (x4k)
           (elemP 23 v0 v3 fun c30 =>
           binP .neq (atP c30 8) (atP o28 0) fun r31 =>
           iteP r31
            (x4k)
            (binP .add (atP o28 0) (I 1) fun r32 =>
            elemP 23 v0 v3 fun c33 =>
            call Qjf [.one (atP c33 9),.one r32] fun o34 =>
            binP .lss (atP o34 0) (I 0) fun r35 =>
            iteP r35
             (x5k)
             (elemP 23 v0 v3 fun c36 =>
             binP .neq (atP c36 10) (atP o34 0) fun r37 =>
             iteP r37
              (x5k)
              (binP .add (atP o34 0) (I 1) fun r38 =>
              elemP 23 v0 v3 fun c39 =>
              call laws_markText [.one r38] fun o40 =>
              binP .neq (atP c39 11) (atP o40 0) fun r41 =>
              iteP r41
               (x6k)
               (binP .add r38 (I 1) fun r42 =>
               elemP 23 v0 v3 fun c43 =>
               binP .neq (atP c43 12) r42 fun r44 =>
               iteP r44
                (x6k)
                (binP .add r42 (I 1) fun r45 =>
                elemP 23 v0 v3 fun c46 =>
                binP .neq (atP c46 13) r45 fun r47 =>
                iteP r47
                 (x6k)
                 (binP .add r45 (I 1) fun r48 =>
                 elemP 23 v0 v3 fun c49 =>
                 call Qjj [.one (atP c49 14),.one r48] fun o50 =>
                 binP .lss (atP o50 0) (I 0) fun r51 =>
                 iteP r51
                  (x7k)
                  (elemP 23 v0 v3 fun c52 =>
                  call laws_markText [.one (atP o50 0)] fun o53 =>
                  binP .neq (atP c52 15) (atP o53 0) fun r54 =>
                  iteP r54
                   (x8k)
                   (binP .add (atP o50 0) (I 1) fun r55 =>
                   elemP 23 v0 v3 fun c56 =>
                   binP .neq (atP c56 16) r55 fun r57 =>
                   iteP r57
                    (x8k)
                    (binP .add r55 (I 1) fun r58 =>
                    elemP 23 v0 v3 fun c59 =>
                    binP .neq (atP c59 17) r58 fun r60 =>
                    iteP r60
                     (x8k)
                     (binP .add r58 (I 1) fun r61 =>
                     elemP 23 v0 v3 fun c62 =>
                     call Qjj [.one (atP c62 18),.one r61] fun o63 =>
                     binP .lss (atP o63 0) (I 0) fun r64 =>
                     iteP r64
                      (x9k)
                      (elemP 23 v0 v3 fun c65 =>
                      binP .neq (atP c65 19) (atP o63 0) fun r66 =>
                      iteP r66
                       (x9k)
                       (binP .add (atP o63 0) (I 1) fun r67 =>
                       elemP 23 v0 v3 fun c68 =>
                       call Qjf [.one (atP c68 20),.one r67] fun o69 =>
                       binP .lss (atP o69 0) (I 0) fun r70 =>
                       iteP r70
                        (x10k)
                        (elemP 23 v0 v3 fun c71 =>
                        binP .neq (atP c71 21) (atP o69 0) fun r72 =>
                        iteP r72
                         (x10k)
                         (binP .add (atP o69 0) (I 1) fun r73 =>
                         elemP 23 v0 v3 fun c74 =>
                         call Qjf [.one (atP c74 22),.one r73] fun o75 =>
                         binP .lss (atP o75 0) (I 0) fun r76 =>
                         iteP r76
                          (x11k)
                          (binP .add v3 (I 1) fun r77 =>
                          K [v0,(atP o75 0),v2,r77]))))))))))))))))))))))))
   (x12k v0 v1 v2 v3)) v
def Qjr:GM
 | [.one a0,.one a1],k =>
  lp (fun L w=>Qjr_r0 w L
   (rt [.sc] [(I (-1))] k)
   (rt [.sc] [(I (-1))] k)
   (rt [.sc] [(I (-1))] k)
   (rt [.sc] [(I (-1))] k)
   (rt [.sc] [(I (-1))] k)
   (rt [.sc] [(I (-1))] k)
   (rt [.sc] [(I (-1))] k)
   (rt [.sc] [(I (-1))] k)
   (rt [.sc] [(I (-1))] k)
   (rt [.sc] [(I (-1))] k)
   (rt [.sc] [(I (-1))] k)
   (rt [.sc] [(I (-1))] k)
   (fun q78 q79 q80 q81=>rt [.sc] [q79] k)) [a0,a1,(I 0),(I 0)]
 | _,_=>False
abbrev Qjr_e:Ent:=⟨[79],Qjr⟩
def Qjr_l:List LE:=[⟨none,0,⟨[(0,.one zB),(1,.one zB),(4,.one zB),(5,.one zB)],[],[],0,278,[]⟩,fun K k v=>Qjr_r0 v K (k .ret ⟨[(4,.one (.pv (I (-1))))],[],[],0,278,[]⟩) (k .ret ⟨[(4,.one (.pv (I (-1))))],[],[],1,278,[]⟩) (k .ret ⟨[(4,.one (.pv (I (-1))))],[],[],2,278,[]⟩) (k .ret ⟨[(4,.one (.pv (I (-1))))],[],[],3,278,[]⟩) (k .ret ⟨[(4,.one (.pv (I (-1))))],[],[],4,278,[]⟩) (k .ret ⟨[(4,.one (.pv (I (-1))))],[],[],5,278,[]⟩) (k .ret ⟨[(4,.one (.pv (I (-1))))],[],[],6,278,[]⟩) (k .ret ⟨[(4,.one (.pv (I (-1))))],[],[],7,278,[]⟩) (k .ret ⟨[(4,.one (.pv (I (-1))))],[],[],8,278,[]⟩) (k .ret ⟨[(4,.one (.pv (I (-1))))],[],[],9,278,[]⟩) (k .ret ⟨[(4,.one (.pv (I (-1))))],[],[],10,278,[]⟩) (k .ret ⟨[(4,.one (.pv (I (-1))))],[],[],11,278,[]⟩) (fun x0 x1 x2 x3=>k (.exit 0) ⟨[(0,.one (.pv x0)),(1,.one (.pv x1)),(4,.one (.pv x2)),(5,.one (.pv x3))],[],[],0,278,[]⟩)⟩]
theorem Qjr_s:LEsOK [laws_markText_e,Qji_e,Qjj_e,Qjf_e] TT.nofl (kk [0,1,4,5]) Qjr_l Tryz.f79 Qjr_l:=⟨fun v K k h=>by
 apply un_all h;exact fun v0 v1 v2 v3 h=>km h
 ,trivial⟩
theorem Qjr_w:EntOK Tryz.prog TT Qjr_e:=okF_ tabok (L:=[laws_markText_e,Qji_e,Qjj_e,Qjf_e]) ⟨laws_markText_w,Qji_w,Qjj_w,Qjf_w,trivial⟩ (keep:=(kk [0,1,4,5])) (l:=Qjr_l) Tryz.func79 Qjr_s fun av k h=>by
 unfold Qjr at h;split at h
 ·exact km h
 ·exact h.elim
def Qjs:GM
 | [.agg u0,.one a1],k=>un 1 (fun a0 =>
  call Qjr [.one a0,.one a1] fun o0 =>
  binP .lss (atP o0 0) (I 0) fun r1 =>
  iteP r1
   (rt [.sc] [(I (-1))] k)
   (rt [.sc] [(atP o0 0)] k)) u0
 | _,_=>False
abbrev Qjs_e:Ent:=⟨[132],Qjs⟩
theorem Qjs_w:EntOK Tryz.prog TT Qjs_e:=okF_ tabok (L:=[Qjr_e]) ⟨Qjr_w,trivial⟩ (keep:=[]) (l:=[]) Tryz.func132 trivial fun av k h=>by
 unfold Qjs at h;split at h
 ·apply un_all h;clear h;intro a0 h;exact km h
 ·exact h.elim
def Qjt:GM
 | [.agg u0,.one a8],k=>un 8 (fun a0 a1 a2 a3 a4 a5 a6 a7 =>
  call Qjg [.one a1,.one a8] fun o0 =>
  binP .lss (atP o0 0) (I 0) fun r1 =>
  iteP r1
   (rt [.sc] [(I (-1))] k)
   (call Qjl [.one a2,.one (atP o0 0)] fun o2 =>
   binP .lss (atP o2 0) (I 0) fun r3 =>
   iteP r3
    (rt [.sc] [(I (-1))] k)
    (call Qjm [.one a3,.one (atP o2 0)] fun o4 =>
    binP .lss (atP o4 0) (I 0) fun r5 =>
    iteP r5
     (rt [.sc] [(I (-1))] k)
     (call Qjn [.one a4,.one (atP o4 0)] fun o6 =>
     binP .lss (atP o6 0) (I 0) fun r7 =>
     iteP r7
      (rt [.sc] [(I (-1))] k)
      (call Qjq [.agg [a5,a6],.one (atP o6 0)] fun o8 =>
      binP .lss (atP o8 0) (I 0) fun r9 =>
      iteP r9
       (rt [.sc] [(I (-1))] k)
       (call Qjs [.agg [a7],.one (atP o8 0)] fun o10 =>
       binP .lss (atP o10 0) (I 0) fun r11 =>
       iteP r11
        (rt [.sc] [(I (-1))] k)
        (rt [.sc] [(atP o10 0)] k))))))) u0
 | _,_=>False
abbrev Qjt_e:Ent:=⟨[46],Qjt⟩
theorem Qjt_w:EntOK Tryz.prog TT Qjt_e:=okF_ tabok (L:=[Qjg_e,Qjl_e,Qjm_e,Qjn_e,Qjq_e,Qjs_e]) ⟨Qjg_w,Qjl_w,Qjm_w,Qjn_w,Qjq_w,Qjs_w,trivial⟩ (keep:=[]) (l:=[]) Tryz.func46 trivial fun av k h=>by
 unfold Qjt at h;split at h
 ·apply un_all h;clear h;intro a0 a1 a2 a3 a4 a5 a6 a7 h;exact km h
 ·exact h.elim
def laws_FnExactPutZone:GM
 | [.agg u0,.agg u1],k=>un 8 (fun a0 a1 a2 a3 a4 a5 a6 a7=>un 2 (fun a8 a9 =>
  call Qbb [.agg [a0,a1,a2,a3,a4,a5,a6,a7],.one (I 1048576)] fun o0 =>
  binP .lss (atP o0 0) (I 0) fun r1 =>
  iteP r1
   (rt [.sc] [(.bool true)] k)
   (call Qal [.agg [a8,a9],.one (atP o0 0)] fun o2 =>
   binP .lss (atP o2 0) (I 0) fun r3 =>
   iteP r3
    (rt [.sc] [(.bool true)] k)
    (call Qce [.agg [a0,a1,a2,a3,a4,a5,a6,a7]] fun o4 =>
    call Qbo [.agg [a8,a9]] fun o5 =>
    ((call Qep [.agg [(atP o4 0),(atP o4 1),(atP o4 2),(atP o4 3),(atP o4 4),(atP o4 5),(atP o4 6),(atP o4 7)],.agg [(atP o5 0),(atP o5 1)]] fun o6 =>
    (call Qce [.agg [a0,a1,a2,a3,a4,a5,a6,a7]] fun o7 =>
    call Qbo [.agg [a8,a9]] fun o8 =>
    call Qib [.agg [(atP o7 0),(atP o7 1),(atP o7 2),(atP o7 3),(atP o7 4),(atP o7 5),(atP o7 6),(atP o7 7)],.agg [(atP o8 0),(atP o8 1)]] fun o9 =>
    call Qje [.agg [(atP o9 0),(atP o9 1),(atP o9 2),(atP o9 3),(atP o9 4),(atP o9 5),(atP o9 6),(atP o9 7)],.agg [(atP o6 0),(atP o6 1),(atP o6 2),(atP o6 3),(atP o6 4),(atP o6 5),(atP o6 6),(atP o6 7)]] fun o10 =>
    unP .not (atP o10 0) fun r11 =>
    iteP r11
     (rt [.sc] [(.bool false)] k)
     (call Qce [.agg [a0,a1,a2,a3,a4,a5,a6,a7]] fun o12 =>
     call Qje [.agg [(atP o7 0),(atP o7 1),(atP o7 2),(atP o7 3),(atP o7 4),(atP o7 5),(atP o7 6),(atP o7 7)],.agg [(atP o12 0),(atP o12 1),(atP o12 2),(atP o12 3),(atP o12 4),(atP o12 5),(atP o12 6),(atP o12 7)]] fun o13 =>
     unP .not (atP o13 0) fun r14 =>
     iteP r14
      (rt [.sc] [(.bool false)] k)
      (call Qbo [.agg [a8,a9]] fun o15 =>
      call Qio [.agg [(atP o8 0),(atP o8 1)],.agg [(atP o15 0),(atP o15 1)]] fun o16 =>
      unP .not (atP o16 0) fun r17 =>
      iteP r17
       (rt [.sc] [(.bool false)] k)
       ((flatCond [.pv (I 0),.nil 195 1,.nil 93 2,.nil 197 3,.nil 136 2,.nil 90 1,.nil 259 51,.nil 221 23] [.pv (atP o7 0),.own 24,.own 25,.own 26,.own 27,.own 28,.own 29,.own 30])∧call laws_markWorld [.agg [(atP o7 0),(atP o7 1),(atP o7 2),(atP o7 3),(atP o7 4),(atP o7 5),(atP o7 6),(atP o7 7)],.one (I 1)] fun o18 =>
       (flatCond [.nil 257 17,.nil 57 4] [.own 32,.own 33])∧call laws_markZone [.agg [(atP o8 0),(atP o8 1)],.one (atP o18 8)] fun o19 =>
       binP .lss (atP o19 2) (I 0) fun r20 =>
       iteP r20
        (rt [.sc] [(.bool false)] k)
        (call Qje [.agg [(atP o9 0),(atP o9 1),(atP o9 2),(atP o9 3),(atP o9 4),(atP o9 5),(atP o9 6),(atP o9 7)],.agg [(atP o6 0),(atP o6 1),(atP o6 2),(atP o6 3),(atP o6 4),(atP o6 5),(atP o6 6),(atP o6 7)]] fun o21 =>
        unP .not (atP o21 0) fun r22 =>
        iteP r22
         (rt [.sc] [(.bool false)] k)
         ((flatCond [.pv (I 0),.nil 195 1,.nil 93 2,.nil 197 3,.nil 136 2,.nil 90 1,.nil 259 51,.nil 221 23] [.pv (atP o9 0),.own 36,.own 37,.own 38,.own 39,.own 40,.own 41,.own 42])∧call laws_markWorld [.agg [(atP o9 0),(atP o9 1),(atP o9 2),(atP o9 3),(atP o9 4),(atP o9 5),(atP o9 6),(atP o9 7)],.one (I 1)] fun o23 =>
         call Qjt [.agg [(atP o9 0),(atP o23 1),(atP o23 2),(atP o23 3),(atP o23 4),(atP o23 5),(atP o23 6),(atP o23 7)],.one (I 1)] fun o24 =>
         binP .lss (atP o24 0) (I 0) fun r25 =>
         iteP r25
          (rt [.sc] [(.bool false)] k)
          (binP .neq (atP o24 0) (atP o23 8) fun r26 =>
          iteP r26
           (rt [.sc] [(.bool false)] k)
           (call Qce [.agg [a0,a1,a2,a3,a4,a5,a6,a7]] fun o27 =>
           call Qbo [.agg [a8,a9]] fun o28 =>
           call Qib [.agg [(atP o27 0),(atP o27 1),(atP o27 2),(atP o27 3),(atP o27 4),(atP o27 5),(atP o27 6),(atP o27 7)],.agg [(atP o28 0),(atP o28 1)]] fun o29 =>
           call Qje [.agg [(atP o29 0),(atP o29 1),(atP o29 2),(atP o29 3),(atP o29 4),(atP o29 5),(atP o29 6),(atP o29 7)],.agg [(atP o6 0),(atP o6 1),(atP o6 2),(atP o6 3),(atP o6 4),(atP o6 5),(atP o6 6),(atP o6 7)]] fun o30 =>
           unP .not (atP o30 0) fun r31 =>
           iteP r31
            (rt [.sc] [(.bool false)] k)
            (call Qjt [.agg [(atP o9 0),(atP o23 1),(atP o23 2),(atP o23 3),(atP o23 4),(atP o23 5),(atP o23 6),(atP o23 7)],.one (I 1)] fun o32 =>
            binP .lss (atP o32 0) (I 0) fun r33 =>
            iteP r33
             (rt [.sc] [(.bool false)] k)
             (binP .neq (atP o32 0) (atP o23 8) fun r34 =>
             iteP r34
              (rt [.sc] [(.bool false)] k)
              (rt [.sc] [(.bool true)] k)))))))))))∧True)∧True)∧(call Qep [.agg [(atP o4 0),(atP o4 1),(atP o4 2),(atP o4 3),(atP o4 4),(atP o4 5),(atP o4 6),(atP o4 7)],.agg [(atP o5 0),(atP o5 1)]] fun o35 =>
    ((call Qce [.agg [a0,a1,a2,a3,a4,a5,a6,a7]] fun o36 =>
    call Qbo [.agg [a8,a9]] fun o37 =>
    call Qib [.agg [(atP o36 0),(atP o36 1),(atP o36 2),(atP o36 3),(atP o36 4),(atP o36 5),(atP o36 6),(atP o36 7)],.agg [(atP o37 0),(atP o37 1)]] fun o38 =>
    call Qje [.agg [(atP o38 0),(atP o38 1),(atP o38 2),(atP o38 3),(atP o38 4),(atP o38 5),(atP o38 6),(atP o38 7)],.agg [(atP o35 0),(atP o35 1),(atP o35 2),(atP o35 3),(atP o35 4),(atP o35 5),(atP o35 6),(atP o35 7)]] fun o39 =>
    unP .not (atP o39 0) fun r40 =>
    iteP r40
     (rt [.sc] [(.bool false)] k)
     (call Qce [.agg [a0,a1,a2,a3,a4,a5,a6,a7]] fun o41 =>
     call Qje [.agg [(atP o36 0),(atP o36 1),(atP o36 2),(atP o36 3),(atP o36 4),(atP o36 5),(atP o36 6),(atP o36 7)],.agg [(atP o41 0),(atP o41 1),(atP o41 2),(atP o41 3),(atP o41 4),(atP o41 5),(atP o41 6),(atP o41 7)]] fun o42 =>
     unP .not (atP o42 0) fun r43 =>
     iteP r43
      (rt [.sc] [(.bool false)] k)
      (call Qbo [.agg [a8,a9]] fun o44 =>
      call Qio [.agg [(atP o37 0),(atP o37 1)],.agg [(atP o44 0),(atP o44 1)]] fun o45 =>
      unP .not (atP o45 0) fun r46 =>
      iteP r46
       (rt [.sc] [(.bool false)] k)
       ((flatCond [.pv (I 0),.nil 195 1,.nil 93 2,.nil 197 3,.nil 136 2,.nil 90 1,.nil 259 51,.nil 221 23] [.pv (atP o36 0),.own 25,.own 26,.own 27,.own 28,.own 29,.own 30,.own 31])∧call laws_markWorld [.agg [(atP o36 0),(atP o36 1),(atP o36 2),(atP o36 3),(atP o36 4),(atP o36 5),(atP o36 6),(atP o36 7)],.one (I 1)] fun o47 =>
       (flatCond [.nil 257 17,.nil 57 4] [.own 33,.own 34])∧call laws_markZone [.agg [(atP o37 0),(atP o37 1)],.one (atP o47 8)] fun o48 =>
       binP .lss (atP o48 2) (I 0) fun r49 =>
       iteP r49
        (rt [.sc] [(.bool false)] k)
        (call Qje [.agg [(atP o38 0),(atP o38 1),(atP o38 2),(atP o38 3),(atP o38 4),(atP o38 5),(atP o38 6),(atP o38 7)],.agg [(atP o35 0),(atP o35 1),(atP o35 2),(atP o35 3),(atP o35 4),(atP o35 5),(atP o35 6),(atP o35 7)]] fun o50 =>
        unP .not (atP o50 0) fun r51 =>
        iteP r51
         (rt [.sc] [(.bool false)] k)
         ((flatCond [.pv (I 0),.nil 195 1,.nil 93 2,.nil 197 3,.nil 136 2,.nil 90 1,.nil 259 51,.nil 221 23] [.pv (atP o38 0),.own 37,.own 38,.own 39,.own 40,.own 41,.own 42,.own 43])∧call laws_markWorld [.agg [(atP o38 0),(atP o38 1),(atP o38 2),(atP o38 3),(atP o38 4),(atP o38 5),(atP o38 6),(atP o38 7)],.one (I 1)] fun o52 =>
         call Qjt [.agg [(atP o38 0),(atP o52 1),(atP o52 2),(atP o52 3),(atP o52 4),(atP o52 5),(atP o52 6),(atP o52 7)],.one (I 1)] fun o53 =>
         binP .lss (atP o53 0) (I 0) fun r54 =>
         iteP r54
          (rt [.sc] [(.bool false)] k)
          (binP .neq (atP o53 0) (atP o52 8) fun r55 =>
          iteP r55
           (rt [.sc] [(.bool false)] k)
           (call Qce [.agg [a0,a1,a2,a3,a4,a5,a6,a7]] fun o56 =>
           call Qbo [.agg [a8,a9]] fun o57 =>
           call Qib [.agg [(atP o56 0),(atP o56 1),(atP o56 2),(atP o56 3),(atP o56 4),(atP o56 5),(atP o56 6),(atP o56 7)],.agg [(atP o57 0),(atP o57 1)]] fun o58 =>
           call Qje [.agg [(atP o58 0),(atP o58 1),(atP o58 2),(atP o58 3),(atP o58 4),(atP o58 5),(atP o58 6),(atP o58 7)],.agg [(atP o35 0),(atP o35 1),(atP o35 2),(atP o35 3),(atP o35 4),(atP o35 5),(atP o35 6),(atP o35 7)]] fun o59 =>
           unP .not (atP o59 0) fun r60 =>
           iteP r60
            (rt [.sc] [(.bool false)] k)
            (call Qjt [.agg [(atP o38 0),(atP o52 1),(atP o52 2),(atP o52 3),(atP o52 4),(atP o52 5),(atP o52 6),(atP o52 7)],.one (I 1)] fun o61 =>
            binP .lss (atP o61 0) (I 0) fun r62 =>
            iteP r62
             (rt [.sc] [(.bool false)] k)
             (binP .neq (atP o61 0) (atP o52 8) fun r63 =>
             iteP r63
              (rt [.sc] [(.bool false)] k)
              (rt [.sc] [(.bool true)] k)))))))))))∧True)∧True)∧True))) u1) u0
 | _,_=>False
abbrev laws_FnExactPutZone_e:Ent:=⟨[6],laws_FnExactPutZone⟩
theorem laws_FnExactPutZone_w:EntOK Tryz.prog TT laws_FnExactPutZone_e:=okF_ tabok (L:=[Qbb_e,Qal_e,Qce_e,Qbo_e,Qep_e,Qib_e,Qje_e,Qio_e,laws_markWorld_e,laws_markZone_e,Qjt_e]) ⟨Qbb_w,Qal_w,Qce_w,Qbo_w,Qep_w,Qib_w,Qje_w,Qio_w,laws_markWorld_w,laws_markZone_w,Qjt_w,trivial⟩ (keep:=[]) (l:=[]) Tryz.func6 trivial fun av k h=>by
 unfold laws_FnExactPutZone at h;split at h
 ·apply un_all h;clear h;intro a0 a1 a2 a3 a4 a5 a6 a7 h;apply un_all h;clear h;intro a8 a9 h;exact km h
 ·exact h.elim
end Go.Ev
