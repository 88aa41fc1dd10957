/- The tables of this load, and for each function the meaning that the evaluator gives it, with its proof, part 2. -/
import Derived.Test.YtmhmcamcenidaaaGreatFn1
set_option maxRecDepth 100000
set_option linter.unusedVariables false
namespace Go.Ev
open Go.Proofs
def Qdk:GM
 | [.agg u0],k=>un 17 (fun a0 a1 a2 a3 a4 a5 a6 a7 a8 a9 a10 a11 a12 a13 a14 a15 a16 =>
  call Qcz [.agg [a0,a1,a2,a3,a4,a5,a6,a7,a8,a9,a10,a11,a12,a13,a14,a15]] fun o0 =>
  iteP (atP o0 0)
   (binP .eql a1 (I 0) fun r1 =>
   iteP r1
    (binP .eql a2 (I 1) fun r2 =>
    iteP r2
     (unP .not a15 fun r3 =>
     iteP r3
      (call Qdd [.agg [a8,a9],.one a7] fun o4 =>
      binP .eql a0 (atP o4 0) fun r5 =>
      iteP r5
       (call Qde [.agg [a0,a1,a2,a3,a4,a5,a6,a7,a8,a9,a10,a11,a12,a13,a14,a15]] fun o6 =>
       call Qdj [.agg [a8,a9],.one (atP o6 0),.one a16] fun o7 =>
       rt [.sc] [(atP o7 0)] k)
       (rt [.sc] [(.bool false)] k))
      (rt [.sc] [(.bool false)] k))
     (rt [.sc] [(.bool false)] k))
    (rt [.sc] [(.bool false)] k))
   (rt [.sc] [(.bool false)] k)) u0
 | _,_=>False
abbrev Qdk_e:Ent:=⟨[348],Qdk⟩
theorem Qdk_w:EntOK Tryz.prog TT Qdk_e:=ok_ tabok (L:=[Qcz_e,Qdd_e,Qde_e,Qdj_e]) ⟨Qcz_w,Qdd_w,Qde_w,Qdj_w,trivial⟩ (keep:=[]) (l:=[]) Tryz.func348 trivial fun av k h=>by
 unfold Qdk at h;split at h
 ·apply un_all h;clear h;intro a0 a1 a2 a3 a4 a5 a6 a7 a8 a9 a10 a11 a12 a13 a14 a15 a16 h;exact km h
 ·exact h.elim
def Qdl:GM
 | [.agg u0],k=>un 16 (fun a0 a1 a2 a3 a4 a5 a6 a7 a8 a9 a10 a11 a12 a13 a14 a15 =>
  (1=1)∧(1≤16777216)∧(1=1)∧(0=0)∧(1=1)∧(flatCond [.pv (I 0)] [.pv (I 233)])∧call Qde [.agg [a0,a1,a2,a3,a4,a5,a6,a7,a8,a9,a10,a11,a12,a13,a14,a15]] fun o0 =>
  catP 1 (.list 1 [[(I 233)]]) (atP o0 0) fun r1 =>
  call Qdc [.one r1] fun o2 =>
  rt [.sc] [(atP o2 0)] k) u0
 | _,_=>False
abbrev Qdl_e:Ent:=⟨[324],Qdl⟩
theorem Qdl_w:EntOK Tryz.prog TT Qdl_e:=ok_ tabok (L:=[Qde_e,Qdc_e]) ⟨Qde_w,Qdc_w,trivial⟩ (keep:=[]) (l:=[]) Tryz.func324 trivial fun av k h=>by
 unfold Qdl at h;split at h
 ·apply un_all h;clear h;intro a0 a1 a2 a3 a4 a5 a6 a7 a8 a9 a10 a11 a12 a13 a14 a15 h;exact km h
 ·exact h.elim
def Qdm:GM
 | [.agg u0,.agg u1],k=>un 16 (fun a0 a1 a2 a3 a4 a5 a6 a7 a8 a9 a10 a11 a12 a13 a14 a15=>un 16 (fun a16 a17 a18 a19 a20 a21 a22 a23 a24 a25 a26 a27 a28 a29 a30 a31 =>
  iteP a15
   (rt [.sc] [(I 4)] k)
   (iteP a31
    (rt [.sc] [(I 6)] k)
    (rt [.sc] [(I 1)] k))) u1) u0
 | _,_=>False
abbrev Qdm_e:Ent:=⟨[325],Qdm⟩
theorem Qdm_w:EntOK Tryz.prog TT Qdm_e:=ok_ tabok (L:=[]) trivial (keep:=[]) (l:=[]) Tryz.func325 trivial fun av k h=>by
 unfold Qdm at h;split at h
 ·apply un_all h;clear h;intro a0 a1 a2 a3 a4 a5 a6 a7 a8 a9 a10 a11 a12 a13 a14 a15 h;apply un_all h;clear h;intro a16 a17 a18 a19 a20 a21 a22 a23 a24 a25 a26 a27 a28 a29 a30 a31 h;exact km h
 ·exact h.elim
def Qdn_r0 (v:List PV) (K:List PV→Prop) (x0k:Prop) (x1k:PV→PV→PV→PV→Prop):Prop :=
 un 4 (fun v0 v1 v2 v3 =>
  lenP v0 fun r0 =>
  binP .lss v3 r0 fun r1 =>
  iteP r1
   (elemP 1 v0 v3 fun c2 =>
   elemP 1 v1 v3 fun c3 =>
   binP .neq (atP c2 0) (atP c3 0) fun r4 =>
   iteP r4
    (x0k)
    (binP .add v3 (I 1) fun r5 =>
    K [v0,v1,v2,r5]))
   (x1k v0 v1 v2 v3)) v
def Qdn:GM
 | [.one a0,.one a1],k =>
  lenP a0 fun r0 =>
  lenP a1 fun r1 =>
  binP .neq r0 r1 fun r2 =>
  iteP r2
   (rt [.sc] [(.bool false)] k)
   (lp (fun L w=>Qdn_r0 w L
    (rt [.sc] [(.bool false)] k)
    (fun q6 q7 q8 q9=>rt [.sc] [(.bool true)] k)) [a0,a1,(.bool false),(I 0)])
 | _,_=>False
abbrev Qdn_e:Ent:=⟨[350],Qdn⟩
def Qdn_l:List LE:=[⟨none,0,⟨[(0,.one zB),(1,.one zB),(4,.one zB),(5,.one zB)],[],[],0,26,[]⟩,fun K k v=>Qdn_r0 v K (k .ret ⟨[(4,.one (.kb false))],[],[],0,26,[]⟩) (fun x0 x1 x2 x3=>k (.exit 0) ⟨[(0,.one (.pv x0)),(1,.one (.pv x1)),(4,.one (.pv x2)),(5,.one (.pv x3))],[],[],0,26,[]⟩)⟩]
theorem Qdn_s:LEsOK [] TT (kk [0,1,4,5]) Qdn_l Tryz.f350 Qdn_l:=⟨fun v K k h=>by
 apply un_all h;exact fun v0 v1 v2 v3 h=>km h
 ,trivial⟩
theorem Qdn_w:EntOK Tryz.prog TT Qdn_e:=ok_ tabok (L:=[]) trivial (keep:=(kk [0,1,4,5])) (l:=Qdn_l) Tryz.func350 Qdn_s fun av k h=>by
 unfold Qdn at h;split at h
 ·exact km h
 ·exact h.elim
def Qdo:GM
 | [.agg u0,.agg u1],k=>un 2 (fun a0 a1=>un 2 (fun a2 a3 =>
  binP .eql a1 a3 fun r0 =>
  iteP r0
   (call Qdn [.one a0,.one a2] fun o1 =>
   rt [.sc] [(atP o1 0)] k)
   (rt [.sc] [(.bool false)] k)) u1) u0
 | _,_=>False
abbrev Qdo_e:Ent:=⟨[373],Qdo⟩
theorem Qdo_w:EntOK Tryz.prog TT Qdo_e:=ok_ tabok (L:=[Qdn_e]) ⟨Qdn_w,trivial⟩ (keep:=[]) (l:=[]) Tryz.func373 trivial fun av k h=>by
 unfold Qdo at h;split at h
 ·apply un_all h;clear h;intro a0 a1 h;apply un_all h;clear h;intro a2 a3 h;exact km h
 ·exact h.elim
def Qdp:GM
 | [.agg u0,.agg u1],k=>un 16 (fun a0 a1 a2 a3 a4 a5 a6 a7 a8 a9 a10 a11 a12 a13 a14 a15=>un 16 (fun a16 a17 a18 a19 a20 a21 a22 a23 a24 a25 a26 a27 a28 a29 a30 a31 =>
  binP .eql a5 a21 fun r0 =>
  iteP r0
   (binP .eql a6 a22 fun r1 =>
   rt [.sc] [r1] k)
   (rt [.sc] [(.bool false)] k)) u1) u0
 | _,_=>False
abbrev Qdp_e:Ent:=⟨[374],Qdp⟩
theorem Qdp_w:EntOK Tryz.prog TT Qdp_e:=ok_ tabok (L:=[]) trivial (keep:=[]) (l:=[]) Tryz.func374 trivial fun av k h=>by
 unfold Qdp at h;split at h
 ·apply un_all h;clear h;intro a0 a1 a2 a3 a4 a5 a6 a7 a8 a9 a10 a11 a12 a13 a14 a15 h;apply un_all h;clear h;intro a16 a17 a18 a19 a20 a21 a22 a23 a24 a25 a26 a27 a28 a29 a30 a31 h;exact km h
 ·exact h.elim
def Qdq:GM
 | [.agg u0,.agg u1],k=>un 16 (fun a0 a1 a2 a3 a4 a5 a6 a7 a8 a9 a10 a11 a12 a13 a14 a15=>un 16 (fun a16 a17 a18 a19 a20 a21 a22 a23 a24 a25 a26 a27 a28 a29 a30 a31 =>
  iteP a15
   (rt [.sc] [(I 4)] k)
   (call Qcy [.agg [a10,a11]] fun o0 =>
   iteP (atP o0 0)
    (rt [.sc] [(I 5)] k)
    (binP .add a4 a12 fun r1 =>
    binP .lss a19 r1 fun r2 =>
    iteP r2
     (rt [.sc] [(I 5)] k)
     (iteP a31
      (rt [.sc] [(I 6)] k)
      (call Qdo [.agg [a24,a25],.agg [a10,a11]] fun o3 =>
      unP .not (atP o3 0) fun r4 =>
      iteP r4
       (rt [.sc] [(I 6)] k)
       (call Qdp [.agg [a16,a17,a18,a19,a20,a21,a22,a23,a24,a25,a26,a27,a28,a29,a30,a31],.agg [a0,a1,a2,a3,a4,a5,a6,a7,a8,a9,a10,a11,a12,a13,a14,a15]] fun o5 =>
       unP .not (atP o5 0) fun r6 =>
       iteP r6
        (rt [.sc] [(I 6)] k)
        (rt [.sc] [(I 1)] k))))))) u1) u0
 | _,_=>False
abbrev Qdq_e:Ent:=⟨[326],Qdq⟩
theorem Qdq_w:EntOK Tryz.prog TT Qdq_e:=ok_ tabok (L:=[Qcy_e,Qdo_e,Qdp_e]) ⟨Qcy_w,Qdo_w,Qdp_w,trivial⟩ (keep:=[]) (l:=[]) Tryz.func326 trivial fun av k h=>by
 unfold Qdq at h;split at h
 ·apply un_all h;clear h;intro a0 a1 a2 a3 a4 a5 a6 a7 a8 a9 a10 a11 a12 a13 a14 a15 h;apply un_all h;clear h;intro a16 a17 a18 a19 a20 a21 a22 a23 a24 a25 a26 a27 a28 a29 a30 a31 h;exact km h
 ·exact h.elim
def Qdr:GM
 | [.agg u0,.agg u1],k=>un 16 (fun a0 a1 a2 a3 a4 a5 a6 a7 a8 a9 a10 a11 a12 a13 a14 a15=>un 16 (fun a16 a17 a18 a19 a20 a21 a22 a23 a24 a25 a26 a27 a28 a29 a30 a31 =>
  call Qcy [.agg [a13,a14]] fun o0 =>
  iteP (atP o0 0)
   (rt [.sc] [(I 5)] k)
   (boolP .eql a31 a15 fun r1 =>
   iteP r1
    (rt [.sc] [(I 6)] k)
    (call Qdp [.agg [a16,a17,a18,a19,a20,a21,a22,a23,a24,a25,a26,a27,a28,a29,a30,a31],.agg [a0,a1,a2,a3,a4,a5,a6,a7,a8,a9,a10,a11,a12,a13,a14,a15]] fun o2 =>
    unP .not (atP o2 0) fun r3 =>
    iteP r3
     (rt [.sc] [(I 6)] k)
     (call Qdo [.agg [a29,a30],.agg [a13,a14]] fun o4 =>
     unP .not (atP o4 0) fun r5 =>
     iteP r5
      (rt [.sc] [(I 6)] k)
      (call Qdo [.agg [a26,a27],.agg [a10,a11]] fun o6 =>
      unP .not (atP o6 0) fun r7 =>
      iteP r7
       (rt [.sc] [(I 6)] k)
       (binP .neq a28 a12 fun r8 =>
       iteP r8
        (rt [.sc] [(I 6)] k)
        (iteP a31
         (call Qdo [.agg [a24,a25],.agg [a8,a9]] fun o9 =>
         unP .not (atP o9 0) fun r10 =>
         iteP r10
          (rt [.sc] [(I 6)] k)
          (rt [.sc] [(I 1)] k))
         (rt [.sc] [(I 1)] k)))))))) u1) u0
 | _,_=>False
abbrev Qdr_e:Ent:=⟨[327],Qdr⟩
theorem Qdr_w:EntOK Tryz.prog TT Qdr_e:=ok_ tabok (L:=[Qcy_e,Qdp_e,Qdo_e]) ⟨Qcy_w,Qdp_w,Qdo_w,trivial⟩ (keep:=[]) (l:=[]) Tryz.func327 trivial fun av k h=>by
 unfold Qdr at h;split at h
 ·apply un_all h;clear h;intro a0 a1 a2 a3 a4 a5 a6 a7 a8 a9 a10 a11 a12 a13 a14 a15 h;apply un_all h;clear h;intro a16 a17 a18 a19 a20 a21 a22 a23 a24 a25 a26 a27 a28 a29 a30 a31 h;exact km h
 ·exact h.elim
def Qds:GM
 | [.agg u0,.agg u1],k=>un 16 (fun a0 a1 a2 a3 a4 a5 a6 a7 a8 a9 a10 a11 a12 a13 a14 a15=>un 17 (fun a16 a17 a18 a19 a20 a21 a22 a23 a24 a25 a26 a27 a28 a29 a30 a31 a32 =>
  call Qcz [.agg [a0,a1,a2,a3,a4,a5,a6,a7,a8,a9,a10,a11,a12,a13,a14,a15]] fun o0 =>
  unP .not (atP o0 0) fun r1 =>
  iteP r1
   (rt [.sc] [(I 2)] k)
   (call Qcz [.agg [a16,a17,a18,a19,a20,a21,a22,a23,a24,a25,a26,a27,a28,a29,a30,a31]] fun o2 =>
   unP .not (atP o2 0) fun r3 =>
   iteP r3
    (rt [.sc] [(I 2)] k)
    (binP .neq a16 a0 fun r4 =>
    iteP r4
     (rt [.sc] [(I 3)] k)
     (binP .add a1 (I 1) fun r5 =>
     binP .neq a17 r5 fun r6 =>
     iteP r6
      (rt [.sc] [(I 3)] k)
      (call Qdl [.agg [a0,a1,a2,a3,a4,a5,a6,a7,a8,a9,a10,a11,a12,a13,a14,a15]] fun o7 =>
      binP .neq a23 (atP o7 0) fun r8 =>
      iteP r8
       (rt [.sc] [(I 3)] k)
       (binP .lss a19 a3 fun r9 =>
       iteP r9
        (rt [.sc] [(I 3)] k)
        (call Qdm [.agg [a0,a1,a2,a3,a4,a5,a6,a7,a8,a9,a10,a11,a12,a13,a14,a15],.agg [a16,a17,a18,a19,a20,a21,a22,a23,a24,a25,a26,a27,a28,a29,a30,a31]] fun o10 =>
        binP .eql a18 (I 2) fun r11 =>
        iteP r11
         (call Qdq [.agg [a0,a1,a2,a3,a4,a5,a6,a7,a8,a9,a10,a11,a12,a13,a14,a15],.agg [a16,a17,a18,a19,a20,a21,a22,a23,a24,a25,a26,a27,a28,a29,a30,a31]] fun o12 =>
         binP .eql (atP o12 0) (I 1) fun r13 =>
         iteP r13
          (call Qde [.agg [a16,a17,a18,a19,a20,a21,a22,a23,a24,a25,a26,a27,a28,a29,a30,a31]] fun o14 =>
          call Qdj [.agg [a10,a11],.one (atP o14 0),.one a32] fun o15 =>
          unP .not (atP o15 0) fun r16 =>
          iteP r16
           (rt [.sc] [(I 7)] k)
           (rt [.sc] [(atP o12 0)] k))
          (rt [.sc] [(atP o12 0)] k))
         (binP .eql a18 (I 3) fun r17 =>
         iteP r17
          (call Qdr [.agg [a0,a1,a2,a3,a4,a5,a6,a7,a8,a9,a10,a11,a12,a13,a14,a15],.agg [a16,a17,a18,a19,a20,a21,a22,a23,a24,a25,a26,a27,a28,a29,a30,a31]] fun o18 =>
          binP .eql (atP o18 0) (I 1) fun r19 =>
          iteP r19
           (call Qde [.agg [a16,a17,a18,a19,a20,a21,a22,a23,a24,a25,a26,a27,a28,a29,a30,a31]] fun o20 =>
           call Qdj [.agg [a13,a14],.one (atP o20 0),.one a32] fun o21 =>
           unP .not (atP o21 0) fun r22 =>
           iteP r22
            (rt [.sc] [(I 7)] k)
            (rt [.sc] [(atP o18 0)] k))
           (rt [.sc] [(atP o18 0)] k))
          (binP .eql (atP o10 0) (I 1) fun r23 =>
          iteP r23
           (call Qde [.agg [a16,a17,a18,a19,a20,a21,a22,a23,a24,a25,a26,a27,a28,a29,a30,a31]] fun o24 =>
           call Qdj [.agg [a8,a9],.one (atP o24 0),.one a32] fun o25 =>
           unP .not (atP o25 0) fun r26 =>
           iteP r26
            (rt [.sc] [(I 7)] k)
            (rt [.sc] [(atP o10 0)] k))
           (rt [.sc] [(atP o10 0)] k)))))))))) u1) u0
 | _,_=>False
abbrev Qds_e:Ent:=⟨[271],Qds⟩
theorem Qds_w:EntOK Tryz.prog TT Qds_e:=ok_ tabok (L:=[Qcz_e,Qdl_e,Qdm_e,Qdq_e,Qde_e,Qdj_e,Qdr_e]) ⟨Qcz_w,Qdl_w,Qdm_w,Qdq_w,Qde_w,Qdj_w,Qdr_w,trivial⟩ (keep:=[]) (l:=[]) Tryz.func271 trivial fun av k h=>by
 unfold Qds at h;split at h
 ·apply un_all h;clear h;intro a0 a1 a2 a3 a4 a5 a6 a7 a8 a9 a10 a11 a12 a13 a14 a15 h;apply un_all h;clear h;intro a16 a17 a18 a19 a20 a21 a22 a23 a24 a25 a26 a27 a28 a29 a30 a31 a32 h;exact km h
 ·exact h.elim
def Qdt:GM
 | [.agg u0,.agg u1],k=>un 16 (fun a0 a1 a2 a3 a4 a5 a6 a7 a8 a9 a10 a11 a12 a13 a14 a15=>un 17 (fun a16 a17 a18 a19 a20 a21 a22 a23 a24 a25 a26 a27 a28 a29 a30 a31 a32 =>
  call Qds [.agg [a0,a1,a2,a3,a4,a5,a6,a7,a8,a9,a10,a11,a12,a13,a14,a15],.agg [a16,a17,a18,a19,a20,a21,a22,a23,a24,a25,a26,a27,a28,a29,a30,a31,a32]] fun o0 =>
  binP .eql (atP o0 0) (I 1) fun r1 =>
  rt [.sc] [r1] k) u1) u0
 | _,_=>False
abbrev Qdt_e:Ent:=⟨[349],Qdt⟩
theorem Qdt_w:EntOK Tryz.prog TT Qdt_e:=ok_ tabok (L:=[Qds_e]) ⟨Qds_w,trivial⟩ (keep:=[]) (l:=[]) Tryz.func349 trivial fun av k h=>by
 unfold Qdt at h;split at h
 ·apply un_all h;clear h;intro a0 a1 a2 a3 a4 a5 a6 a7 a8 a9 a10 a11 a12 a13 a14 a15 h;apply un_all h;clear h;intro a16 a17 a18 a19 a20 a21 a22 a23 a24 a25 a26 a27 a28 a29 a30 a31 a32 h;exact km h
 ·exact h.elim
def Qdu_r0 (v:List PV) (K:List PV→Prop) (x0k:PV→Prop) (x1k:PV→Prop) (x2k:PV→PV→PV→Prop):Prop :=
 un 3 (fun v0 v1 v2 =>
  lenP v0 fun r0 =>
  binP .lss v2 r0 fun r1 =>
  iteP r1
   (binP .eql v2 (I 0) fun r2 =>
   iteP r2
    (elemP 17 v0 (I 0) fun c3 =>
    call Qdk [.agg [(atP c3 0),(atP c3 1),(atP c3 2),(atP c3 3),(atP c3 4),(atP c3 5),(atP c3 6),(atP c3 7),(atP c3 8),(atP c3 9),(atP c3 10),(atP c3 11),(atP c3 12),(atP c3 13),(atP c3 14),(atP c3 15),(atP c3 16)]] fun o4 =>
    unP .not (atP o4 0) fun r5 =>
    iteP r5
     (x0k v2)
     (binP .gtr v2 (I 0) fun r6 =>
     iteP r6
      (binP .sub v2 (I 1) fun r7 =>
      elemP 17 v0 r7 fun c8 =>
      elemP 17 v0 v2 fun c9 =>
      call Qdt [.agg [(atP c8 0),(atP c8 1),(atP c8 2),(atP c8 3),(atP c8 4),(atP c8 5),(atP c8 6),(atP c8 7),(atP c8 8),(atP c8 9),(atP c8 10),(atP c8 11),(atP c8 12),(atP c8 13),(atP c8 14),(atP c8 15)],.agg [(atP c9 0),(atP c9 1),(atP c9 2),(atP c9 3),(atP c9 4),(atP c9 5),(atP c9 6),(atP c9 7),(atP c9 8),(atP c9 9),(atP c9 10),(atP c9 11),(atP c9 12),(atP c9 13),(atP c9 14),(atP c9 15),(atP c9 16)]] fun o10 =>
      unP .not (atP o10 0) fun r11 =>
      iteP r11
       (x1k v2)
       (binP .add v2 (I 1) fun r12 =>
       K [v0,v1,r12]))
      (binP .add v2 (I 1) fun r13 =>
      K [v0,v1,r13])))
    (binP .gtr v2 (I 0) fun r14 =>
    iteP r14
     (binP .sub v2 (I 1) fun r15 =>
     elemP 17 v0 r15 fun c16 =>
     elemP 17 v0 v2 fun c17 =>
     call Qdt [.agg [(atP c16 0),(atP c16 1),(atP c16 2),(atP c16 3),(atP c16 4),(atP c16 5),(atP c16 6),(atP c16 7),(atP c16 8),(atP c16 9),(atP c16 10),(atP c16 11),(atP c16 12),(atP c16 13),(atP c16 14),(atP c16 15)],.agg [(atP c17 0),(atP c17 1),(atP c17 2),(atP c17 3),(atP c17 4),(atP c17 5),(atP c17 6),(atP c17 7),(atP c17 8),(atP c17 9),(atP c17 10),(atP c17 11),(atP c17 12),(atP c17 13),(atP c17 14),(atP c17 15),(atP c17 16)]] fun o18 =>
     unP .not (atP o18 0) fun r19 =>
     iteP r19
      (x0k v2)
      (binP .add v2 (I 1) fun r20 =>
      K [v0,v1,r20]))
     (binP .add v2 (I 1) fun r21 =>
     K [v0,v1,r21])))
   (x2k v0 v1 v2)) v
def Qdu:GM
 | [.one a0],k =>
  lp (fun L w=>Qdu_r0 w L
   (fun q22=>rt [.sc] [q22] k)
   (fun q23=>rt [.sc] [q23] k)
   (fun q24 q25 q26=>rt [.sc] [(I (-1))] k)) [a0,(I 0),(I 0)]
 | _,_=>False
abbrev Qdu_e:Ent:=⟨[296],Qdu⟩
def Qdu_l:List LE:=[⟨none,0,⟨[(0,.one zB),(2,.one zB),(3,.one zB)],[],[],0,38,[]⟩,fun K k v=>Qdu_r0 v K (fun x0=>k .ret ⟨[(2,.one (.pv x0))],[],[],1,38,[]⟩) (fun x0=>k .ret ⟨[(2,.one (.pv x0))],[],[],2,38,[]⟩) (fun x0 x1 x2=>k (.exit 0) ⟨[(0,.one (.pv x0)),(2,.one (.pv x1)),(3,.one (.pv x2))],[],[],0,38,[]⟩)⟩]
theorem Qdu_s:LEsOK [Qdk_e,Qdt_e] TT (kk [0,2,3,13,14,15,16,17,20,21,22,23,24,25,26,27,28,29,30,31,32,33,34,35]) Qdu_l Tryz.f296 Qdu_l:=⟨fun v K k h=>by
 apply un_all h;exact fun v0 v1 v2 h=>km h
 ,trivial⟩
theorem Qdu_w:EntOK Tryz.prog TT Qdu_e:=ok_ tabok (L:=[Qdk_e,Qdt_e]) ⟨Qdk_w,Qdt_w,trivial⟩ (keep:=(kk [0,2,3,13,14,15,16,17,20,21,22,23,24,25,26,27,28,29,30,31,32,33,34,35])) (l:=Qdu_l) Tryz.func296 Qdu_s fun av k h=>by
 unfold Qdu at h;split at h
 ·exact km h
 ·exact h.elim
def Qdv:GM
 | [.one a0],k =>
  lenP a0 fun r0 =>
  call Qcw [.one r0,.one (I 1),.one (I 12)] fun o1 =>
  iteP (atP o1 0)
   (call Qdu [.one a0] fun o2 =>
   binP .lss (atP o2 0) (I 0) fun r3 =>
   rt [.sc] [r3] k)
   (rt [.sc] [(.bool false)] k)
 | _,_=>False
abbrev Qdv_e:Ent:=⟨[237],Qdv⟩
theorem Qdv_w:EntOK Tryz.prog TT Qdv_e:=ok_ tabok (L:=[Qcw_e,Qdu_e]) ⟨Qcw_w,Qdu_w,trivial⟩ (keep:=[]) (l:=[]) Tryz.func237 trivial fun av k h=>by
 unfold Qdv at h;split at h
 ·exact km h
 ·exact h.elim
def Qdw:GM
 | [.one a0],k =>
  call Qdv [.one a0] fun o0 =>
  unP .not (atP o0 0) fun r1 =>
  iteP r1
   (rt [.sc,.sc,.sc,.sc,.sc,.sc,.sc,.sc,.pv,.sc,.pv,.sc,.sc,.pv,.sc,.sc,.sc] [(I 0),(I 0),(I 0),(I 0),(I 0),(I 0),(I 0),(I 0),(.list 1 []),(I 0),(.list 1 []),(I 0),(I 0),(.list 1 []),(I 0),(.bool false),(.bool false)] k)
   (lenP a0 fun r2 =>
   binP .sub r2 (I 1) fun r3 =>
   elemP 17 a0 r3 fun c4 =>
   call Qch [.agg [(atP c4 0),(atP c4 1),(atP c4 2),(atP c4 3),(atP c4 4),(atP c4 5),(atP c4 6),(atP c4 7),(atP c4 8),(atP c4 9),(atP c4 10),(atP c4 11),(atP c4 12),(atP c4 13),(atP c4 14),(atP c4 15)]] fun o5 =>
   rt [.sc,.sc,.sc,.sc,.sc,.sc,.sc,.sc,.pv,.sc,.pv,.sc,.sc,.pv,.sc,.sc,.sc] [(atP o5 0),(atP o5 1),(atP o5 2),(atP o5 3),(atP o5 4),(atP o5 5),(atP o5 6),(atP o5 7),(atP o5 8),(atP o5 9),(atP o5 10),(atP o5 11),(atP o5 12),(atP o5 13),(atP o5 14),(atP o5 15),(.bool true)] k)
 | _,_=>False
abbrev Qdw_e:Ent:=⟨[171],Qdw⟩
theorem Qdw_w:EntOK Tryz.prog TT Qdw_e:=ok_ tabok (L:=[Qdv_e,Qch_e]) ⟨Qdv_w,Qch_w,trivial⟩ (keep:=[]) (l:=[]) Tryz.func171 trivial fun av k h=>by
 unfold Qdw at h;split at h
 ·exact km h
 ·exact h.elim
def Qdx_r0 (v:List PV) (K:List PV→Prop) (x0k:Prop) (x1k:PV→PV→PV→Prop):Prop :=
 un 3 (fun v0 v1 v2 =>
  lenS v0 fun r0 =>
  binP .lss v2 r0 fun r1 =>
  iteP r1
   (charP v0 v2 fun r2 =>
   binP .lss r2 (.int .u8 97) fun r3 =>
   iteP r3
    (charP v0 v2 fun r4 =>
    binP .lss r4 (.int .u8 48) fun r5 =>
    iteP r5
     (charP v0 v2 fun r6 =>
     binP .neq r6 (.int .u8 45) fun r7 =>
     iteP r7
      (x0k)
      (binP .add v2 (I 1) fun r8 =>
      K [v0,v1,r8]))
     (charP v0 v2 fun r9 =>
     binP .gtr r9 (.int .u8 57) fun r10 =>
     iteP r10
      (charP v0 v2 fun r11 =>
      binP .neq r11 (.int .u8 45) fun r12 =>
      iteP r12
       (x0k)
       (binP .add v2 (I 1) fun r13 =>
       K [v0,v1,r13]))
      (binP .add v2 (I 1) fun r14 =>
      K [v0,v1,r14])))
    (charP v0 v2 fun r15 =>
    binP .gtr r15 (.int .u8 122) fun r16 =>
    iteP r16
     (charP v0 v2 fun r17 =>
     binP .lss r17 (.int .u8 48) fun r18 =>
     iteP r18
      (charP v0 v2 fun r19 =>
      binP .neq r19 (.int .u8 45) fun r20 =>
      iteP r20
       (x0k)
       (binP .add v2 (I 1) fun r21 =>
       K [v0,v1,r21]))
      (charP v0 v2 fun r22 =>
      binP .gtr r22 (.int .u8 57) fun r23 =>
      iteP r23
       (charP v0 v2 fun r24 =>
       binP .neq r24 (.int .u8 45) fun r25 =>
       iteP r25
        (x0k)
        (binP .add v2 (I 1) fun r26 =>
        K [v0,v1,r26]))
       (binP .add v2 (I 1) fun r27 =>
       K [v0,v1,r27])))
     (binP .add v2 (I 1) fun r28 =>
     K [v0,v1,r28])))
   (x1k v0 v1 v2)) v
def Qdx:GM
 | [.one a0],k =>
  lenS a0 fun r0 =>
  call Qcw [.one r0,.one (I 1),.one (I 8)] fun o1 =>
  unP .not (atP o1 0) fun r2 =>
  iteP r2
   (rt [.sc] [(.bool false)] k)
   (charP a0 (I 0) fun r3 =>
   binP .eql r3 (.int .u8 45) fun r4 =>
   iteP r4
    (rt [.sc] [(.bool false)] k)
    (lenS a0 fun r5 =>
    binP .sub r5 (I 1) fun r6 =>
    charP a0 r6 fun r7 =>
    binP .eql r7 (.int .u8 45) fun r8 =>
    iteP r8
     (rt [.sc] [(.bool false)] k)
     (lp (fun L w=>Qdx_r0 w L
      (rt [.sc] [(.bool false)] k)
      (fun q29 q30 q31=>rt [.sc] [(.bool true)] k)) [a0,(.bool false),(I 0)])))
 | _,_=>False
abbrev Qdx_e:Ent:=⟨[222],Qdx⟩
def Qdx_l:List LE:=[⟨none,0,⟨[(0,.one zB),(2,.one zB),(3,.one zB)],[],[],1,55,[]⟩,fun K k v=>Qdx_r0 v K (k .ret ⟨[(2,.one (.kb false))],[],[],1,55,[]⟩) (fun x0 x1 x2=>k (.exit 0) ⟨[(0,.one (.pv x0)),(2,.one (.pv x1)),(3,.one (.pv x2))],[],[],1,55,[]⟩)⟩]
theorem Qdx_s:LEsOK [Qcw_e] TT (kk [0,2,3,32,33,34,35,38,39,40,41,42,43,44,45,46,47,50,51,52,53]) Qdx_l Tryz.f222 Qdx_l:=⟨fun v K k h=>by
 apply un_all h;exact fun v0 v1 v2 h=>km h
 ,trivial⟩
theorem Qdx_w:EntOK Tryz.prog TT Qdx_e:=ok_ tabok (L:=[Qcw_e]) ⟨Qcw_w,trivial⟩ (keep:=(kk [0,2,3,32,33,34,35,38,39,40,41,42,43,44,45,46,47,50,51,52,53])) (l:=Qdx_l) Tryz.func222 Qdx_s fun av k h=>by
 unfold Qdx at h;split at h
 ·exact km h
 ·exact h.elim
def Qdy_r0 (v:List PV) (K:List PV→Prop) (x0k:Prop) (x1k:PV→PV→PV→Prop):Prop :=
 un 3 (fun v0 v1 v2 =>
  lenP v0 fun r0 =>
  binP .lss v2 r0 fun r1 =>
  iteP r1
   (elemP 1 v0 v2 fun c2 =>
   call Qdx [.one (atP c2 0)] fun o3 =>
   unP .not (atP o3 0) fun r4 =>
   iteP r4
    (x0k)
    (binP .add v2 (I 1) fun r5 =>
    K [v0,v1,r5]))
   (x1k v0 v1 v2)) v
def Qdy:GM
 | [.one a0],k =>
  lp (fun L w=>Qdy_r0 w L
   (rt [.sc] [(.bool false)] k)
   (fun q6 q7 q8=>lenP q6 fun r9 =>
    call Qcw [.one r9,.one (I 1),.one (I 4)] fun o10 =>
    rt [.sc] [(atP o10 0)] k)) [a0,(.bool false),(I 0)]
 | _,_=>False
abbrev Qdy_e:Ent:=⟨[152],Qdy⟩
def Qdy_l:List LE:=[⟨none,0,⟨[(0,.one zB),(2,.one zB),(3,.one zB)],[],[],0,19,[]⟩,fun K k v=>Qdy_r0 v K (k .ret ⟨[(2,.one (.kb false))],[],[],1,19,[]⟩) (fun x0 x1 x2=>k (.exit 0) ⟨[(0,.one (.pv x0)),(2,.one (.pv x1)),(3,.one (.pv x2))],[],[],0,19,[]⟩)⟩]
theorem Qdy_s:LEsOK [Qdx_e,Qcw_e] TT (kk [0,2,3]) Qdy_l Tryz.f152 Qdy_l:=⟨fun v K k h=>by
 apply un_all h;exact fun v0 v1 v2 h=>km h
 ,trivial⟩
theorem Qdy_w:EntOK Tryz.prog TT Qdy_e:=ok_ tabok (L:=[Qdx_e,Qcw_e]) ⟨Qdx_w,Qcw_w,trivial⟩ (keep:=(kk [0,2,3])) (l:=Qdy_l) Tryz.func152 Qdy_s fun av k h=>by
 unfold Qdy at h;split at h
 ·exact km h
 ·exact h.elim
def Qdz:GM
 | [.agg u0],k=>un 4 (fun a0 a1 a2 a3 =>
  binP .eql a1 (I 1) fun r0 =>
  iteP r0
   (call Qdx [.one a0] fun o1 =>
   iteP (atP o1 0)
    (call Qcw [.one a2,.one (I 0),.one (I 999999)] fun o2 =>
    iteP (atP o2 0)
     (lenP a3 fun r3 =>
     binP .eql r3 (I 0) fun r4 =>
     rt [.sc] [r4] k)
     (rt [.sc] [(.bool false)] k))
    (rt [.sc] [(.bool false)] k))
   (binP .eql a1 (I 2) fun r5 =>
   iteP r5
    (call Qdx [.one a0] fun o6 =>
    iteP (atP o6 0)
     (call Qcw [.one a2,.one (I 0),.one (I 2147483646)] fun o7 =>
     iteP (atP o7 0)
      (lenP a3 fun r8 =>
      binP .eql r8 (I 0) fun r9 =>
      rt [.sc] [r9] k)
      (rt [.sc] [(.bool false)] k))
     (rt [.sc] [(.bool false)] k))
    (binP .eql a1 (I 3) fun r10 =>
    iteP r10
     (call Qdx [.one a0] fun o11 =>
     iteP (atP o11 0)
      (call Qcw [.one a2,.one (I 0),.one (I 2147483646)] fun o12 =>
      iteP (atP o12 0)
       (call Qdy [.one a3] fun o13 =>
       rt [.sc] [(atP o13 0)] k)
       (rt [.sc] [(.bool false)] k))
      (rt [.sc] [(.bool false)] k))
     (rt [.sc] [(.bool false)] k)))) u0
 | _,_=>False
abbrev Qdz_e:Ent:=⟨[311],Qdz⟩
theorem Qdz_w:EntOK Tryz.prog TT Qdz_e:=ok_ tabok (L:=[Qdx_e,Qcw_e,Qdy_e]) ⟨Qdx_w,Qcw_w,Qdy_w,trivial⟩ (keep:=[]) (l:=[]) Tryz.func311 trivial fun av k h=>by
 unfold Qdz at h;split at h
 ·apply un_all h;clear h;intro a0 a1 a2 a3 h;exact km h
 ·exact h.elim
def Qea:GM
 | [.one a0,.one a1],k =>
  binP .lss a0 a1 fun r0 =>
  iteP r0
   (rt [.sc] [(I (-1))] k)
   (binP .gtr a0 a1 fun r1 =>
   iteP r1
    (rt [.sc] [(I 1)] k)
    (rt [.sc] [(I 0)] k))
 | _,_=>False
abbrev Qea_e:Ent:=⟨[312],Qea⟩
theorem Qea_w:EntOK Tryz.prog TT Qea_e:=ok_ tabok (L:=[]) trivial (keep:=[]) (l:=[]) Tryz.func312 trivial fun av k h=>by
 unfold Qea at h;split at h
 ·exact km h
 ·exact h.elim
def Qeb_r0 (v:List PV) (K:List PV→Prop) (x0k:Prop) (x1k:Prop) (x2k:PV→PV→PV→Prop):Prop :=
 un 3 (fun v0 v1 v2 =>
  lenP v0 fun r0 =>
  binP .lss v2 r0 fun r1 =>
  iteP r1
   (elemP 4 v0 v2 fun c2 =>
   call Qdz [.agg [(atP c2 0),(atP c2 1),(atP c2 2),(atP c2 3)]] fun o3 =>
   unP .not (atP o3 0) fun r4 =>
   iteP r4
    (x0k)
    (binP .gtr v2 (I 0) fun r5 =>
    iteP r5
     (binP .sub v2 (I 1) fun r6 =>
     elemP 4 v0 r6 fun c7 =>
     elemP 4 v0 v2 fun c8 =>
     call Qea [.one (atP c7 0),.one (atP c8 0)] fun o9 =>
     binP .neq (atP o9 0) (I (-1)) fun r10 =>
     iteP r10
      (x1k)
      (binP .add v2 (I 1) fun r11 =>
      K [v0,v1,r11]))
     (binP .add v2 (I 1) fun r12 =>
     K [v0,v1,r12])))
   (x2k v0 v1 v2)) v
def Qeb:GM
 | [.one a0],k =>
  lp (fun L w=>Qeb_r0 w L
   (rt [.sc] [(.bool false)] k)
   (rt [.sc] [(.bool false)] k)
   (fun q13 q14 q15=>lenP q13 fun r16 =>
    binP .leq r16 (I 12) fun r17 =>
    rt [.sc] [r17] k)) [a0,(.bool false),(I 0)]
 | _,_=>False
abbrev Qeb_e:Ent:=⟨[254],Qeb⟩
def Qeb_l:List LE:=[⟨none,0,⟨[(0,.one zB),(2,.one zB),(3,.one zB)],[],[],0,38,[]⟩,fun K k v=>Qeb_r0 v K (k .ret ⟨[(2,.one (.kb false))],[],[],1,38,[]⟩) (k .ret ⟨[(2,.one (.kb false))],[],[],2,38,[]⟩) (fun x0 x1 x2=>k (.exit 0) ⟨[(0,.one (.pv x0)),(2,.one (.pv x1)),(3,.one (.pv x2))],[],[],0,38,[]⟩)⟩]
theorem Qeb_s:LEsOK [Qdz_e,Qea_e] TT (kk [0,2,3,17,18,19,20,21,22,23,24,25,26,27,28,29,30,31,32,33]) Qeb_l Tryz.f254 Qeb_l:=⟨fun v K k h=>by
 apply un_all h;exact fun v0 v1 v2 h=>km h
 ,trivial⟩
theorem Qeb_w:EntOK Tryz.prog TT Qeb_e:=ok_ tabok (L:=[Qdz_e,Qea_e]) ⟨Qdz_w,Qea_w,trivial⟩ (keep:=(kk [0,2,3,17,18,19,20,21,22,23,24,25,26,27,28,29,30,31,32,33])) (l:=Qeb_l) Tryz.func254 Qeb_s fun av k h=>by
 unfold Qeb at h;split at h
 ·exact km h
 ·exact h.elim
def Qec_r0 (v:List PV) (K:List PV→Prop) (x0k:PV→PV→PV→PV→Prop):Prop :=
 un 4 (fun v0 v1 v2 v3 =>
  lenP v0 fun r0 =>
  binP .lss v1 r0 fun r1 =>
  iteP r1
   (elemP 1 v0 v1 fun c2 =>
   convP .i64 (atP c2 0) fun r3 =>
   (1=1)∧(1≤16777216)∧(1=1)∧(0=0)∧(1=1)∧(flatCond [.pv (I 0)] [.pv r3])∧catP 1 v3 (.list 1 [[r3]]) fun r4 =>
   binP .add v1 (I 1) fun r5 =>
   K [v0,r5,v2,r4])
   (x0k v0 v1 v2 v3)) v
def Qec:GM
 | [.one a0],k =>
  lenP a0 fun r0 =>
  (1=1)∧(1≤16777216)∧(1=1)∧(0=0)∧(1=1)∧(flatCond [.pv (I 0)] [.pv r0])∧lp (fun L w=>Qec_r0 w L
   (fun q6 q7 q8 q9=>rt [.own true 3 1] [q9] k)) [a0,(I 0),(.list 1 []),(.list 1 [[r0]])]
 | _,_=>False
abbrev Qec_e:Ent:=⟨[292],Qec⟩
def Qec_l:List LE:=[⟨none,0,⟨[(0,.one zB),(2,.one (.own 1)),(3,.one (.own 0)),(4,.one zB)],[],[(1,⟨.deep,3,1,(.bool false)⟩),(0,⟨.deep,3,1,(.bool false)⟩)],2,23,[]⟩,fun K k v=>Qec_r0 v K (fun x0 x1 x2 x3=>k (.exit 0) ⟨[(0,.one (.pv x0)),(2,.one (.own 1)),(3,.one (.own 0)),(4,.one (.pv x1))],[],[(1,⟨.deep,3,1,x2⟩),(0,⟨.deep,3,1,x3⟩)],2,23,[]⟩)⟩]
theorem Qec_s:LEsOK [] TT (kk [0,2,3,4]) Qec_l Tryz.f292 Qec_l:=⟨fun v K k h=>by
 apply un_all h;exact fun v0 v1 v2 v3 h=>km h
 ,trivial⟩
theorem Qec_w:EntOK Tryz.prog TT Qec_e:=ok_ tabok (L:=[]) trivial (keep:=(kk [0,2,3,4])) (l:=Qec_l) Tryz.func292 Qec_s fun av k h=>by
 unfold Qec at h;split at h
 ·exact km h
 ·exact h.elim
def Qed:GM
 | [.one a0],k =>
  bytesP a0 fun r0 =>
  call Qec [.one r0] fun o1 =>
  rt [.own true 3 1] [(atP o1 0)] k
 | _,_=>False
abbrev Qed_e:Ent:=⟨[235],Qed⟩
theorem Qed_w:EntOK Tryz.prog TT Qed_e:=ok_ tabok (L:=[Qec_e]) ⟨Qec_w,trivial⟩ (keep:=[]) (l:=[]) Tryz.func235 trivial fun av k h=>by
 unfold Qed at h;split at h
 ·exact km h
 ·exact h.elim
def Qee_r0 (v:List PV) (K:List PV→Prop) (x0k:PV→PV→PV→PV→PV→PV→PV→Prop):Prop :=
 un 7 (fun v0 v1 v2 v3 v4 v5 v6 =>
  lenP v4 fun r0 =>
  binP .lss v0 r0 fun r1 =>
  iteP r1
   (elemP 1 v4 v0 fun c2 =>
   call Qed [.one (atP c2 0)] fun o3 =>
   catP 1 v6 (atP o3 0) fun r4 =>
   binP .add v0 (I 1) fun r5 =>
   K [r5,v1,v2,v3,v4,v5,r4])
   (x0k v0 v1 v2 v3 v4 v5 v6)) v
def Qee:GM
 | [.agg u0],k=>un 4 (fun a0 a1 a2 a3 =>
  call Qed [.one a0] fun o0 =>
  lenP a3 fun r1 =>
  (3=3)∧(3≤16777216)∧(1=1)∧(0=0)∧(1=1)∧(flatCond [.pv (I 0)] [.pv a1])∧(1=1)∧(1=1)∧(flatCond [.pv (I 0)] [.pv a2])∧(2=2)∧(1=1)∧(flatCond [.pv (I 0)] [.pv r1])∧catP 1 (atP o0 0) (.list 1 [[a1],[a2],[r1]]) fun r2 =>
  lp (fun L w=>Qee_r0 w L
   (fun q6 q7 q8 q9 q10 q11 q12=>rt [.own true 3 1] [q12] k)) [(I 0),a0,a1,a2,a3,(.list 1 []),r2]) u0
 | _,_=>False
abbrev Qee_e:Ent:=⟨[399],Qee⟩
def Qee_l:List LE:=[⟨none,0,⟨[(1,.one (.ptr 0 0)),(2,.one (.own 4)),(3,.one (.own 3)),(4,.one zB)],[(0,[zB,zB,zB,zB])],[(4,⟨.deep,3,1,(.bool false)⟩),(3,⟨.deep,3,1,(.bool false)⟩)],5,33,[]⟩,fun K k v=>Qee_r0 v K (fun x0 x1 x2 x3 x4 x5 x6=>k (.exit 0) ⟨[(1,.one (.ptr 0 0)),(2,.one (.own 4)),(3,.one (.own 3)),(4,.one (.pv x0))],[(0,[.pv x1,.pv x2,.pv x3,.pv x4])],[(4,⟨.deep,3,1,x5⟩),(3,⟨.deep,3,1,x6⟩)],5,33,[]⟩)⟩]
theorem Qee_s:LEsOK [Qed_e] TT (kk [1,2,3,4]) Qee_l Tryz.f399 Qee_l:=⟨fun v K k h=>by
 apply un_all h;exact fun v0 v1 v2 v3 v4 v5 v6 h=>km h
 ,trivial⟩
theorem Qee_w:EntOK Tryz.prog TT Qee_e:=ok_ tabok (L:=[Qed_e]) ⟨Qed_w,trivial⟩ (keep:=(kk [1,2,3,4])) (l:=Qee_l) Tryz.func399 Qee_s fun av k h=>by
 unfold Qee at h;split at h
 ·apply un_all h;clear h;intro a0 a1 a2 a3 h;exact km h
 ·exact h.elim
def Qef:GM
 | [.agg u0],k=>un 4 (fun a0 a1 a2 a3 =>
  (1=1)∧(1≤16777216)∧(1=1)∧(0=0)∧(1=1)∧(flatCond [.pv (I 0)] [.pv (I 227)])∧call Qee [.agg [a0,a1,a2,a3]] fun o0 =>
  catP 1 (.list 1 [[(I 227)]]) (atP o0 0) fun r1 =>
  call Qdc [.one r1] fun o2 =>
  rt [.sc] [(atP o2 0)] k) u0
 | _,_=>False
abbrev Qef_e:Ent:=⟨[352],Qef⟩
theorem Qef_w:EntOK Tryz.prog TT Qef_e:=ok_ tabok (L:=[Qee_e,Qdc_e]) ⟨Qee_w,Qdc_w,trivial⟩ (keep:=[]) (l:=[]) Tryz.func352 trivial fun av k h=>by
 unfold Qef at h;split at h
 ·apply un_all h;clear h;intro a0 a1 a2 a3 h;exact km h
 ·exact h.elim
def Qeg_r0 (v:List PV) (K:List PV→Prop) (x0k:PV→PV→PV→PV→Prop):Prop :=
 un 4 (fun v0 v1 v2 v3 =>
  lenP v0 fun r0 =>
  binP .lss v1 r0 fun r1 =>
  iteP r1
   (elemP 4 v0 v1 fun c2 =>
   call Qef [.agg [(atP c2 0),(atP c2 1),(atP c2 2),(atP c2 3)]] fun o3 =>
   (1=1)∧(1≤16777216)∧(1=1)∧(0=0)∧(1=1)∧(flatCond [.pv (I 0)] [.pv (atP o3 0)])∧catP 1 v3 (.list 1 [[(atP o3 0)]]) fun r4 =>
   binP .add v1 (I 1) fun r5 =>
   K [v0,r5,v2,r4])
   (x0k v0 v1 v2 v3)) v
def Qeg:GM
 | [.one a0],k =>
  (0=0)∧(0≤16777216)∧(1=1)∧lp (fun L w=>Qeg_r0 w L
   (fun q6 q7 q8 q9=>rt [.own true 3 1] [q9] k)) [a0,(I 0),(.list 1 []),(.list 1 [])]
 | _,_=>False
abbrev Qeg_e:Ent:=⟨[315],Qeg⟩
def Qeg_l:List LE:=[⟨none,0,⟨[(0,.one zB),(2,.one (.own 1)),(3,.one (.own 0)),(4,.one zB)],[],[(1,⟨.deep,3,1,(.bool false)⟩),(0,⟨.deep,3,1,(.bool false)⟩)],2,21,[]⟩,fun K k v=>Qeg_r0 v K (fun x0 x1 x2 x3=>k (.exit 0) ⟨[(0,.one (.pv x0)),(2,.one (.own 1)),(3,.one (.own 0)),(4,.one (.pv x1))],[],[(1,⟨.deep,3,1,x2⟩),(0,⟨.deep,3,1,x3⟩)],2,21,[]⟩)⟩]
theorem Qeg_s:LEsOK [Qef_e] TT (kk [0,2,3,4]) Qeg_l Tryz.f315 Qeg_l:=⟨fun v K k h=>by
 apply un_all h;exact fun v0 v1 v2 v3 h=>km h
 ,trivial⟩
theorem Qeg_w:EntOK Tryz.prog TT Qeg_e:=ok_ tabok (L:=[Qef_e]) ⟨Qef_w,trivial⟩ (keep:=(kk [0,2,3,4])) (l:=Qeg_l) Tryz.func315 Qeg_s fun av k h=>by
 unfold Qeg at h;split at h
 ·exact km h
 ·exact h.elim
def Qeh:GM
 | [.one a0,.one a1],k =>
  (3=3)∧(3≤16777216)∧(1=1)∧(0=0)∧(1=1)∧(flatCond [.pv (I 0)] [.pv (I 229)])∧(1=1)∧(1=1)∧(flatCond [.pv (I 0)] [.pv a0])∧(2=2)∧(1=1)∧(flatCond [.pv (I 0)] [.pv a1])∧call Qdc [.one (.list 1 [[(I 229)],[a0],[a1]])] fun o0 =>
  rt [.sc] [(atP o0 0)] k
 | _,_=>False
abbrev Qeh_e:Ent:=⟨[398],Qeh⟩
theorem Qeh_w:EntOK Tryz.prog TT Qeh_e:=ok_ tabok (L:=[Qdc_e]) ⟨Qdc_w,trivial⟩ (keep:=[]) (l:=[]) Tryz.func398 trivial fun av k h=>by
 unfold Qeh at h;split at h
 ·exact km h
 ·exact h.elim
def Qei_r0 (v:List PV) (K:List PV→Prop) (x0k:PV→PV→PV→PV→Prop):Prop :=
 un 4 (fun v0 v1 v2 v3 =>
  lenP v0 fun r0 =>
  binP .lss v1 r0 fun r1 =>
  iteP r1
   (binP .add v1 (I 1) fun r2 =>
   lenP v0 fun r3 =>
   binP .lss r2 r3 fun r4 =>
   iteP r4
    (elemP 1 v0 v1 fun c5 =>
    binP .add v1 (I 1) fun r6 =>
    elemP 1 v0 r6 fun c7 =>
    call Qeh [.one (atP c5 0),.one (atP c7 0)] fun o8 =>
    (1=1)∧(1≤16777216)∧(1=1)∧(0=0)∧(1=1)∧(flatCond [.pv (I 0)] [.pv (atP o8 0)])∧catP 1 v3 (.list 1 [[(atP o8 0)]]) fun r9 =>
    binP .add v1 (I 2) fun r10 =>
    K [v0,r10,v2,r9])
    (elemP 1 v0 v1 fun c11 =>
    (1=1)∧(1≤16777216)∧(1=1)∧(0=0)∧(1=1)∧(flatCond [.pv (I 0)] [.pv (atP c11 0)])∧catP 1 v3 (.list 1 [[(atP c11 0)]]) fun r12 =>
    binP .add v1 (I 2) fun r13 =>
    K [v0,r13,v2,r12]))
   (x0k v0 v1 v2 v3)) v
def Qei:GM
 | [.one a0],k =>
  (0=0)∧(0≤16777216)∧(1=1)∧lp (fun L w=>Qei_r0 w L
   (fun q14 q15 q16 q17=>rt [.own true 3 1] [q17] k)) [a0,(I 0),(.list 1 []),(.list 1 [])]
 | _,_=>False
abbrev Qei_e:Ent:=⟨[362],Qei⟩
def Qei_l:List LE:=[⟨none,0,⟨[(0,.one zB),(2,.one (.own 1)),(3,.one (.own 0)),(4,.one zB)],[],[(1,⟨.deep,3,1,(.bool false)⟩),(0,⟨.deep,3,1,(.bool false)⟩)],2,38,[]⟩,fun K k v=>Qei_r0 v K (fun x0 x1 x2 x3=>k (.exit 0) ⟨[(0,.one (.pv x0)),(2,.one (.own 1)),(3,.one (.own 0)),(4,.one (.pv x1))],[],[(1,⟨.deep,3,1,x2⟩),(0,⟨.deep,3,1,x3⟩)],2,38,[]⟩)⟩]
theorem Qei_s:LEsOK [Qeh_e] TT (kk [0,2,3,4]) Qei_l Tryz.f362 Qei_l:=⟨fun v K k h=>by
 apply un_all h;exact fun v0 v1 v2 v3 h=>km h
 ,trivial⟩
theorem Qei_w:EntOK Tryz.prog TT Qei_e:=ok_ tabok (L:=[Qeh_e]) ⟨Qeh_w,trivial⟩ (keep:=(kk [0,2,3,4])) (l:=Qei_l) Tryz.func362 Qei_s fun av k h=>by
 unfold Qei at h;split at h
 ·exact km h
 ·exact h.elim
def Qej_r0 (v:List PV) (K:List PV→Prop) (x0k:PV→PV→Prop):Prop :=
 un 2 (fun v0 v1 =>
  lenP v1 fun r0 =>
  binP .gtr r0 (I 1) fun r1 =>
  iteP r1
   (call Qei [.one v1] fun o2 =>
   K [v0,(atP o2 0)])
   (x0k v0 v1)) v
def Qej:GM
 | [.one a0],k =>
  lenP a0 fun r0 =>
  binP .eql r0 (I 0) fun r1 =>
  iteP r1
   ((1=1)∧(1≤16777216)∧(1=1)∧(0=0)∧(1=1)∧(flatCond [.pv (I 0)] [.pv (I 229)])∧call Qdc [.one (.list 1 [[(I 229)]])] fun o2 =>
   rt [.sc] [(atP o2 0)] k)
   (lp (fun L w=>Qej_r0 w L
    (fun q3 q4=>elemP 1 q4 (I 0) fun c5 =>
     rt [.sc] [(atP c5 0)] k)) [(I 0),a0])
 | _,_=>False
abbrev Qej_e:Ent:=⟨[314],Qej⟩
def Qej_l:List LE:=[⟨none,0,⟨[(2,.one zB),(3,.one zB)],[],[],0,18,[]⟩,fun K k v=>Qej_r0 v K (fun x0 x1=>k (.exit 0) ⟨[(2,.one (.pv x0)),(3,.one (.pv x1))],[],[],0,18,[]⟩)⟩]
theorem Qej_s:LEsOK [Qdc_e,Qei_e] TT (kk [2,3]) Qej_l Tryz.f314 Qej_l:=⟨fun v K k h=>by
 apply un_all h;exact fun v0 v1 h=>km h
 ,trivial⟩
theorem Qej_w:EntOK Tryz.prog TT Qej_e:=ok_ tabok (L:=[Qdc_e,Qei_e]) ⟨Qdc_w,Qei_w,trivial⟩ (keep:=(kk [2,3])) (l:=Qej_l) Tryz.func314 Qej_s fun av k h=>by
 unfold Qej at h;split at h
 ·exact km h
 ·exact h.elim
def Qek:GM
 | [.one a0,.one a1],k =>
  (3=3)∧(3≤16777216)∧(1=1)∧(0=0)∧(1=1)∧(flatCond [.pv (I 0)] [.pv (I 231)])∧(1=1)∧(1=1)∧(flatCond [.pv (I 0)] [.pv a0])∧(2=2)∧(1=1)∧(flatCond [.pv (I 0)] [.pv a1])∧call Qdc [.one (.list 1 [[(I 231)],[a0],[a1]])] fun o0 =>
  rt [.sc] [(atP o0 0)] k
 | _,_=>False
abbrev Qek_e:Ent:=⟨[313],Qek⟩
theorem Qek_w:EntOK Tryz.prog TT Qek_e:=ok_ tabok (L:=[Qdc_e]) ⟨Qdc_w,trivial⟩ (keep:=[]) (l:=[]) Tryz.func313 trivial fun av k h=>by
 unfold Qek at h;split at h
 ·exact km h
 ·exact h.elim
def Qel:GM
 | [.one a0],k =>
  lenP a0 fun r0 =>
  call Qeg [.one a0] fun o1 =>
  call Qej [.one (atP o1 0)] fun o2 =>
  call Qek [.one r0,.one (atP o2 0)] fun o3 =>
  rt [.sc] [(atP o3 0)] k
 | _,_=>False
abbrev Qel_e:Ent:=⟨[255],Qel⟩
theorem Qel_w:EntOK Tryz.prog TT Qel_e:=ok_ tabok (L:=[Qeg_e,Qej_e,Qek_e]) ⟨Qeg_w,Qej_w,Qek_w,trivial⟩ (keep:=[]) (l:=[]) Tryz.func255 trivial fun av k h=>by
 unfold Qel at h;split at h
 ·exact km h
 ·exact h.elim
def Qem:GM
 | [.one a0,.one a1],k =>
  call Qeb [.one a1] fun o0 =>
  iteP (atP o0 0)
   (call Qel [.one a1] fun o1 =>
   binP .eql (atP o1 0) a0 fun r2 =>
   rt [.sc] [r2] k)
   (rt [.sc] [(.bool false)] k)
 | _,_=>False
abbrev Qem_e:Ent:=⟨[190],Qem⟩
theorem Qem_w:EntOK Tryz.prog TT Qem_e:=ok_ tabok (L:=[Qeb_e,Qel_e]) ⟨Qeb_w,Qel_w,trivial⟩ (keep:=[]) (l:=[]) Tryz.func190 trivial fun av k h=>by
 unfold Qem at h;split at h
 ·exact km h
 ·exact h.elim
def Qen:GM
 | [.agg u0],k=>un 2 (fun a0 a1 =>
  call Qdw [.one a0] fun o0 =>
  iteP (atP o0 16)
   (lenP a1 fun r1 =>
   binP .eql (atP o0 5) r1 fun r2 =>
   iteP r2
    (call Qem [.one (atP o0 6),.one a1] fun o3 =>
    rt [.sc] [(atP o3 0)] k)
    (rt [.sc] [(.bool false)] k))
   (rt [.sc] [(.bool false)] k)) u0
 | _,_=>False
abbrev Qen_e:Ent:=⟨[109],Qen⟩
theorem Qen_w:EntOK Tryz.prog TT Qen_e:=ok_ tabok (L:=[Qdw_e,Qem_e]) ⟨Qdw_w,Qem_w,trivial⟩ (keep:=[]) (l:=[]) Tryz.func109 trivial fun av k h=>by
 unfold Qen at h;split at h
 ·apply un_all h;clear h;intro a0 a1 h;exact km h
 ·exact h.elim
def Qeo:GM
 | [.agg u0],k=>un 2 (fun a0 a1 =>
  call Qdw [.one a0] fun o0 =>
  call Qen [.agg [a0,a1]] fun o1 =>
  unP .not (atP o1 0) fun r2 =>
  iteP r2
   (rt [.sc] [(I (-1))] k)
   (rt [.sc] [(atP o0 0)] k)) u0
 | _,_=>False
abbrev Qeo_e:Ent:=⟨[110],Qeo⟩
theorem Qeo_w:EntOK Tryz.prog TT Qeo_e:=ok_ tabok (L:=[Qdw_e,Qen_e]) ⟨Qdw_w,Qen_w,trivial⟩ (keep:=[]) (l:=[]) Tryz.func110 trivial fun av k h=>by
 unfold Qeo at h;split at h
 ·apply un_all h;clear h;intro a0 a1 h;exact km h
 ·exact h.elim
def Qep_r0 (v:List PV) (K:List PV→Prop) (x0k:PV→PV→PV→PV→PV→PV→PV→PV→PV→PV→PV→PV→PV→PV→PV→PV→PV→PV→PV→PV→PV→PV→PV→PV→PV→PV→PV→Prop) (x1k:PV→PV→PV→PV→PV→PV→PV→PV→PV→PV→PV→PV→PV→PV→PV→PV→PV→PV→PV→PV→PV→PV→PV→PV→PV→PV→PV→Prop):Prop :=
 un 27 (fun v0 v1 v2 v3 v4 v5 v6 v7 v8 v9 v10 v11 v12 v13 v14 v15 v16 v17 v18 v19 v20 v21 v22 v23 v24 v25 v26 =>
  lenP v8 fun r0 =>
  binP .lss v0 r0 fun r1 =>
  iteP r1
   (elemP 2 v8 v0 fun c2 =>
   call Qeo [.agg [(atP c2 0),(atP c2 1)]] fun o3 =>
   call Qeo [.agg [v4,v5]] fun o4 =>
   binP .eql (atP o3 0) (atP o4 0) fun r5 =>
   iteP r5
    (call Qct [.agg [v4,v5]] fun o6 =>
    boundP 2 v21 v0 fun n7 =>
    setP v21 n7 0 [(atP o6 0),(atP o6 1)] fun r8 =>
    x0k v1 v2 v3 v4 v5 v6 v7 v8 v9 v10 v11 v12 v13 r8 v14 v15 v16 v17 v18 v19 v20 v21 v22 v23 v24 v25 v26)
    (binP .add v0 (I 1) fun r9 =>
    K [r9,v1,v2,v3,v4,v5,v6,v7,v8,v9,v10,v11,v12,v13,v14,v15,v16,v17,v18,v19,v20,v21,v22,v23,v24,v25,v26]))
   (x1k v0 v1 v2 v3 v4 v5 v6 v7 v8 v9 v10 v11 v12 v13 v14 v15 v16 v17 v18 v19 v20 v21 v22 v23 v24 v25 v26)) v
def Qep:GM
 | [.agg u0,.agg u1],k=>un 8 (fun a0 a1 a2 a3 a4 a5 a6 a7=>un 2 (fun a8 a9 =>
  call Qcv [.agg [a0,a1,a2,a3,a4,a5,a6,a7]] fun o0 =>
  call Qen [.agg [a8,a9]] fun o1 =>
  unP .not (atP o1 0) fun r2 =>
  iteP r2
   (rt [.sc,.pv,.own false 93 2,.own false 197 3,.own false 136 2,.own false 90 1,.own false 259 51,.own false 221 23] [(atP o0 0),(atP o0 1),(atP o0 2),(atP o0 3),(atP o0 4),(atP o0 5),(atP o0 6),(atP o0 7)] k)
   (lp (fun L w=>Qep_r0 w L
    (fun q10 q11 q12 q13 q14 q15 q16 q17 q18 q19 q20 q21 q22 q23 q24 q25 q26 q27 q28 q29 q30 q31 q32 q33 q34 q35 q36=>rt [.sc,.pv,.own false 93 2,.own false 197 3,.own false 136 2,.own false 90 1,.own false 259 51,.own false 221 23] [q10,q11,q23,q32,q33,q34,q35,q36] k)
    (fun q37 q38 q39 q40 q41 q42 q43 q44 q45 q46 q47 q48 q49 q50 q51 q52 q53 q54 q55 q56 q57 q58 q59 q60 q61 q62 q63=>lenP q45 fun r64 =>
     binP .lss r64 (I 8) fun r65 =>
     iteP r65
      (call Qct [.agg [q41,q42]] fun o66 =>
      (1=1)∧(2≤16777216)∧(2=2)∧(0=0)∧(2=2)∧catP 2 q58 (.list 2 [[(atP o66 0),(atP o66 1)]]) fun r67 =>
      rt [.sc,.pv,.own false 93 2,.own false 197 3,.own false 136 2,.own false 90 1,.own false 259 51,.own false 221 23] [q38,q39,r67,q59,q60,q61,q62,q63] k)
      (rt [.sc,.pv,.own false 93 2,.own false 197 3,.own false 136 2,.own false 90 1,.own false 259 51,.own false 221 23] [q38,q39,q58,q59,q60,q61,q62,q63] k))) [(I 0),(atP o0 0),(atP o0 1),(I 0),a8,a9,a0,a1,a2,a3,a4,a5,a6,a7,(.list 23 []),(.list 51 []),(.list 1 []),(.list 2 []),(.list 3 []),(.list 2 []),(.list 1 []),(atP o0 2),(atP o0 3),(atP o0 4),(atP o0 5),(atP o0 6),(atP o0 7)])) u1) u0
 | _,_=>False
abbrev Qep_e:Ent:=⟨[38],Qep⟩
def Qep_l:List LE:=[⟨none,0,⟨[(2,.one (.ptr 0 0)),(3,.one (.ptr 1 0)),(4,.one (.ptr 2 0)),(5,.one (.ptr 11 0)),(6,.one zB)],[(11,[zB,zB,.own 5,.own 6,.own 7,.own 8,.own 9,.own 10]),(2,[zB,.own 13,.own 14,.own 15,.own 16,.own 17,.own 18,.own 19]),(1,[zB,zB]),(0,[zB,zB,zB,zB,zB,zB,zB,zB])],[(19,⟨.flat,221,23,(.bool false)⟩),(18,⟨.flat,259,51,(.bool false)⟩),(17,⟨.flat,90,1,(.bool false)⟩),(16,⟨.flat,136,2,(.bool false)⟩),(15,⟨.flat,197,3,(.bool false)⟩),(14,⟨.flat,93,2,(.bool false)⟩),(13,⟨.flat,195,1,(.bool false)⟩),(5,⟨.flat,93,2,(.bool false)⟩),(6,⟨.flat,197,3,(.bool false)⟩),(7,⟨.flat,136,2,(.bool false)⟩),(8,⟨.flat,90,1,(.bool false)⟩),(9,⟨.flat,259,51,(.bool false)⟩),(10,⟨.flat,221,23,(.bool false)⟩)],20,48,[]⟩,fun K k v=>Qep_r0 v K (fun x0 x1 x2 x3 x4 x5 x6 x7 x8 x9 x10 x11 x12 x13 x14 x15 x16 x17 x18 x19 x20 x21 x22 x23 x24 x25 x26=>k .ret ⟨[(4,.one (.ptr 2 0))],[(2,[.pv x0,.pv x1,.own 5,.own 6,.own 7,.own 8,.own 9,.own 10]),(11,[.pv x0,.pv x1,.own 5,.own 6,.own 7,.own 8,.own 9,.own 10]),(2,[.pv x2,.own 13,.own 14,.own 15,.own 16,.own 17,.own 18,.own 19]),(1,[.pv x3,.pv x4]),(0,[.pv x5,.pv x6,.pv x7,.pv x8,.pv x9,.pv x10,.pv x11,.pv x12])],[(5,⟨.flat,93,2,x13⟩),(19,⟨.flat,221,23,x14⟩),(18,⟨.flat,259,51,x15⟩),(17,⟨.flat,90,1,x16⟩),(16,⟨.flat,136,2,x17⟩),(15,⟨.flat,197,3,x18⟩),(14,⟨.flat,93,2,x19⟩),(13,⟨.flat,195,1,x20⟩),(5,⟨.flat,93,2,x21⟩),(6,⟨.flat,197,3,x22⟩),(7,⟨.flat,136,2,x23⟩),(8,⟨.flat,90,1,x24⟩),(9,⟨.flat,259,51,x25⟩),(10,⟨.flat,221,23,x26⟩)],24,48,[]⟩) (fun x0 x1 x2 x3 x4 x5 x6 x7 x8 x9 x10 x11 x12 x13 x14 x15 x16 x17 x18 x19 x20 x21 x22 x23 x24 x25 x26=>k (.exit 0) ⟨[(2,.one (.ptr 0 0)),(3,.one (.ptr 1 0)),(4,.one (.ptr 2 0)),(5,.one (.ptr 11 0)),(6,.one (.pv x0))],[(11,[.pv x1,.pv x2,.own 5,.own 6,.own 7,.own 8,.own 9,.own 10]),(2,[.pv x3,.own 13,.own 14,.own 15,.own 16,.own 17,.own 18,.own 19]),(1,[.pv x4,.pv x5]),(0,[.pv x6,.pv x7,.pv x8,.pv x9,.pv x10,.pv x11,.pv x12,.pv x13])],[(19,⟨.flat,221,23,x14⟩),(18,⟨.flat,259,51,x15⟩),(17,⟨.flat,90,1,x16⟩),(16,⟨.flat,136,2,x17⟩),(15,⟨.flat,197,3,x18⟩),(14,⟨.flat,93,2,x19⟩),(13,⟨.flat,195,1,x20⟩),(5,⟨.flat,93,2,x21⟩),(6,⟨.flat,197,3,x22⟩),(7,⟨.flat,136,2,x23⟩),(8,⟨.flat,90,1,x24⟩),(9,⟨.flat,259,51,x25⟩),(10,⟨.flat,221,23,x26⟩)],20,48,[]⟩)⟩]
theorem Qep_s:LEsOK [Qcv_e,Qen_e,Qeo_e,Qct_e] TT (kk [2,3,4,5,6]) Qep_l Tryz.f38 Qep_l:=⟨fun v K k h=>by
 apply un_all h;exact fun v0 v1 v2 v3 v4 v5 v6 v7 v8 v9 v10 v11 v12 v13 v14 v15 v16 v17 v18 v19 v20 v21 v22 v23 v24 v25 v26 h=>km h
 ,trivial⟩
theorem Qep_w:EntOK Tryz.prog TT Qep_e:=ok_ tabok (L:=[Qcv_e,Qen_e,Qeo_e,Qct_e]) ⟨Qcv_w,Qen_w,Qeo_w,Qct_w,trivial⟩ (keep:=(kk [2,3,4,5,6])) (l:=Qep_l) Tryz.func38 Qep_s fun av k h=>by
 unfold Qep at h;split at h
 ·apply un_all h;clear h;intro a0 a1 a2 a3 a4 a5 a6 a7 h;apply un_all h;clear h;intro a8 a9 h;exact km h
 ·exact h.elim
def Qeq:GM
 | [.one a0],k =>
  nilP false a0 fun r0 =>
  iteP r0
   (rt [.own true 3 1] [(.list 1 [])] k)
   ((0=0)∧(0≤16777216)∧(1=1)∧(flatRows a0)∧catP 1 (.list 1 []) a0 fun r1 =>
   rt [.own true 3 1] [r1] k)
 | _,_=>False
abbrev Qeq_e:Ent:=⟨[200],Qeq⟩
theorem Qeq_w:EntOK Tryz.prog TT Qeq_e:=ok_ tabok (L:=[]) trivial (keep:=[]) (l:=[]) Tryz.func200 trivial fun av k h=>by
 unfold Qeq at h;split at h
 ·exact km h
 ·exact h.elim
def Qer_r0 (v:List PV) (K:List PV→Prop) (x0k:PV→PV→PV→PV→PV→Prop):Prop :=
 un 5 (fun v0 v1 v2 v3 v4 =>
  binP .lss v2 v1 fun r0 =>
  iteP r0
   (elemP 1 v0 v2 fun c1 =>
   call Qeq [.one (atP c1 0)] fun o2 =>
   (1=1)∧(1≤16777216)∧(1=1)∧(0=0)∧(1=1)∧(flatCond [.nil 3 1] [.own 3])∧catP 1 v4 (.list 1 [[(atP o2 0)]]) fun r3 =>
   binP .add v2 (I 1) fun r4 =>
   K [v0,v1,r4,v3,r3])
   (x0k v0 v1 v2 v3 v4)) v
def Qer:GM
 | [.one a0],k =>
  (0=0)∧(0≤16777216)∧(1=1)∧lenP a0 fun r0 =>
  lp (fun L w=>Qer_r0 w L
   (fun q5 q6 q7 q8 q9=>rt [.own true 195 1] [q9] k)) [a0,r0,(I 0),(.list 1 []),(.list 1 [])]
 | _,_=>False
abbrev Qer_e:Ent:=⟨[196],Qer⟩
def Qer_l:List LE:=[⟨none,0,⟨[(2,.one (.own 1)),(3,.one (.own 0)),(7,.one zB),(8,.one zB),(9,.one zB)],[],[(1,⟨.deep,195,1,(.bool false)⟩),(0,⟨.deep,195,1,(.bool false)⟩)],2,22,[]⟩,fun K k v=>Qer_r0 v K (fun x0 x1 x2 x3 x4=>k (.exit 0) ⟨[(2,.one (.own 1)),(3,.one (.own 0)),(7,.one (.pv x0)),(8,.one (.pv x1)),(9,.one (.pv x2))],[],[(1,⟨.deep,195,1,x3⟩),(0,⟨.deep,195,1,x4⟩)],2,22,[]⟩)⟩]
theorem Qer_s:LEsOK [Qeq_e] TT.nofl (kk [2,3,7,8,9]) Qer_l Tryz.f196 Qer_l:=⟨fun v K k h=>by
 apply un_all h;exact fun v0 v1 v2 v3 v4 h=>km h
 ,trivial⟩
theorem Qer_w:EntOK Tryz.prog TT Qer_e:=okF_ tabok (L:=[Qeq_e]) ⟨Qeq_w,trivial⟩ (keep:=(kk [2,3,7,8,9])) (l:=Qer_l) Tryz.func196 Qer_s fun av k h=>by
 unfold Qer at h;split at h
 ·exact km h
 ·exact h.elim
def Qes:GM
 | [.agg u0],k=>un 2 (fun a0 a1 =>
  call Qeq [.one a0] fun o0 =>
  rt [.own true 3 1,.sc] [(atP o0 0),a1] k) u0
 | _,_=>False
abbrev Qes_e:Ent:=⟨[391],Qes⟩
theorem Qes_w:EntOK Tryz.prog TT Qes_e:=okF_ tabok (L:=[Qeq_e]) ⟨Qeq_w,trivial⟩ (keep:=[]) (l:=[]) Tryz.func391 trivial fun av k h=>by
 unfold Qes at h;split at h
 ·apply un_all h;clear h;intro a0 a1 h;exact km h
 ·exact h.elim
def Qet:GM
 | [.agg u0],k=>un 16 (fun a0 a1 a2 a3 a4 a5 a6 a7 a8 a9 a10 a11 a12 a13 a14 a15 =>
  call Qes [.agg [a8,a9]] fun o0 =>
  call Qes [.agg [a10,a11]] fun o1 =>
  call Qes [.agg [a13,a14]] fun o2 =>
  rt [.sc,.sc,.sc,.sc,.sc,.sc,.sc,.sc,.own true 3 1,.sc,.own true 3 1,.sc,.sc,.own true 3 1,.sc,.sc] [a0,a1,a2,a3,a4,a5,a6,a7,(atP o0 0),(atP o0 1),(atP o1 0),(atP o1 1),a12,(atP o2 0),(atP o2 1),a15] k) u0
 | _,_=>False
abbrev Qet_e:Ent:=⟨[340],Qet⟩
theorem Qet_w:EntOK Tryz.prog TT Qet_e:=okF_ tabok (L:=[Qes_e]) ⟨Qes_w,trivial⟩ (keep:=[]) (l:=[]) Tryz.func340 trivial fun av k h=>by
 unfold Qet at h;split at h
 ·apply un_all h;clear h;intro a0 a1 a2 a3 a4 a5 a6 a7 a8 a9 a10 a11 a12 a13 a14 a15 h;exact km h
 ·exact h.elim
def Qeu:GM
 | [.one a0],k =>
  nilP false a0 fun r0 =>
  iteP r0
   (rt [.own true 317 2] [(.list 2 [])] k)
   ((0=0)∧(0≤16777216)∧(2=2)∧(flatRows a0)∧catP 2 (.list 2 []) a0 fun r1 =>
   rt [.own true 317 2] [r1] k)
 | _,_=>False
abbrev Qeu_e:Ent:=⟨[356],Qeu⟩
theorem Qeu_w:EntOK Tryz.prog TT Qeu_e:=ok_ tabok (L:=[]) trivial (keep:=[]) (l:=[]) Tryz.func356 trivial fun av k h=>by
 unfold Qeu at h;split at h
 ·exact km h
 ·exact h.elim
def Qev:GM
 | [.agg u0],k=>un 17 (fun a0 a1 a2 a3 a4 a5 a6 a7 a8 a9 a10 a11 a12 a13 a14 a15 a16 =>
  call Qet [.agg [a0,a1,a2,a3,a4,a5,a6,a7,a8,a9,a10,a11,a12,a13,a14,a15]] fun o0 =>
  call Qeu [.one a16] fun o1 =>
  rt [.sc,.sc,.sc,.sc,.sc,.sc,.sc,.sc,.own true 3 1,.sc,.own true 3 1,.sc,.sc,.own true 3 1,.sc,.sc,.own true 317 2] [(atP o0 0),(atP o0 1),(atP o0 2),(atP o0 3),(atP o0 4),(atP o0 5),(atP o0 6),(atP o0 7),(atP o0 8),(atP o0 9),(atP o0 10),(atP o0 11),(atP o0 12),(atP o0 13),(atP o0 14),(atP o0 15),(atP o1 0)] k) u0
 | _,_=>False
abbrev Qev_e:Ent:=⟨[305],Qev⟩
theorem Qev_w:EntOK Tryz.prog TT Qev_e:=okF_ tabok (L:=[Qet_e,Qeu_e]) ⟨Qet_w,Qeu_w,trivial⟩ (keep:=[]) (l:=[]) Tryz.func305 trivial fun av k h=>by
 unfold Qev at h;split at h
 ·apply un_all h;clear h;intro a0 a1 a2 a3 a4 a5 a6 a7 a8 a9 a10 a11 a12 a13 a14 a15 a16 h;exact km h
 ·exact h.elim
def Qew_r0 (v:List PV) (K:List PV→Prop) (x0k:PV→PV→PV→PV→PV→Prop):Prop :=
 un 5 (fun v0 v1 v2 v3 v4 =>
  binP .lss v2 v1 fun r0 =>
  iteP r0
   (elemP 17 v0 v2 fun c1 =>
   call Qev [.agg [(atP c1 0),(atP c1 1),(atP c1 2),(atP c1 3),(atP c1 4),(atP c1 5),(atP c1 6),(atP c1 7),(atP c1 8),(atP c1 9),(atP c1 10),(atP c1 11),(atP c1 12),(atP c1 13),(atP c1 14),(atP c1 15),(atP c1 16)]] fun o2 =>
   (1=1)∧(17≤16777216)∧(17=17)∧(0=0)∧(17=17)∧(flatCond [.pv (I 0),.pv (I 0),.pv (I 0),.pv (I 0),.pv (I 0),.pv (I 0),.pv (I 0),.pv (I 0),.nil 3 1,.pv (I 0),.nil 3 1,.pv (I 0),.pv (I 0),.nil 3 1,.pv (I 0),zB,.nil 317 2] [.pv (atP o2 0),.pv (atP o2 1),.pv (atP o2 2),.pv (atP o2 3),.pv (atP o2 4),.pv (atP o2 5),.pv (atP o2 6),.pv (atP o2 7),.own 11,.pv (atP o2 9),.own 13,.pv (atP o2 11),.pv (atP o2 12),.own 16,.pv (atP o2 14),.pv (atP o2 15),.own 19])∧catP 17 v4 (.list 17 [[(atP o2 0),(atP o2 1),(atP o2 2),(atP o2 3),(atP o2 4),(atP o2 5),(atP o2 6),(atP o2 7),(atP o2 8),(atP o2 9),(atP o2 10),(atP o2 11),(atP o2 12),(atP o2 13),(atP o2 14),(atP o2 15),(atP o2 16)]]) fun r3 =>
   binP .add v2 (I 1) fun r4 =>
   K [v0,v1,r4,v3,r3])
   (x0k v0 v1 v2 v3 v4)) v
def Qew:GM
 | [.one a0],k =>
  (0=0)∧(0≤16777216)∧(17=17)∧lenP a0 fun r0 =>
  lp (fun L w=>Qew_r0 w L
   (fun q5 q6 q7 q8 q9=>rt [.own true 257 17] [q9] k)) [a0,r0,(I 0),(.list 17 []),(.list 17 [])]
 | _,_=>False
abbrev Qew_e:Ent:=⟨[245],Qew⟩
def Qew_l:List LE:=[⟨none,0,⟨[(2,.one (.own 1)),(3,.one (.own 0)),(7,.one zB),(8,.one zB),(9,.one zB)],[],[(1,⟨.deep,257,17,(.bool false)⟩),(0,⟨.deep,257,17,(.bool false)⟩)],2,20,[]⟩,fun K k v=>Qew_r0 v K (fun x0 x1 x2 x3 x4=>k (.exit 0) ⟨[(2,.one (.own 1)),(3,.one (.own 0)),(7,.one (.pv x0)),(8,.one (.pv x1)),(9,.one (.pv x2))],[],[(1,⟨.deep,257,17,x3⟩),(0,⟨.deep,257,17,x4⟩)],2,20,[]⟩)⟩]
theorem Qew_s:LEsOK [Qev_e] TT.nofl (kk [2,3,7,8,9]) Qew_l Tryz.f245 Qew_l:=⟨fun v K k h=>by
 apply un_all h;exact fun v0 v1 v2 v3 v4 h=>km h
 ,trivial⟩
theorem Qew_w:EntOK Tryz.prog TT Qew_e:=okF_ tabok (L:=[Qev_e]) ⟨Qev_w,trivial⟩ (keep:=(kk [2,3,7,8,9])) (l:=Qew_l) Tryz.func245 Qew_s fun av k h=>by
 unfold Qew at h;split at h
 ·exact km h
 ·exact h.elim
def Qex:GM
 | [.one a0],k =>
  nilP false a0 fun r0 =>
  iteP r0
   (rt [.own true 9 1] [(.list 1 [])] k)
   ((0=0)∧(0≤16777216)∧(1=1)∧(flatRows a0)∧catP 1 (.list 1 []) a0 fun r1 =>
   rt [.own true 9 1] [r1] k)
 | _,_=>False
abbrev Qex_e:Ent:=⟨[73],Qex⟩
theorem Qex_w:EntOK Tryz.prog TT Qex_e:=okF_ tabok (L:=[]) trivial (keep:=[]) (l:=[]) Tryz.func73 trivial fun av k h=>by
 unfold Qex at h;split at h
 ·exact km h
 ·exact h.elim
def Qey:GM
 | [.agg u0],k=>un 4 (fun a0 a1 a2 a3 =>
  call Qex [.one a3] fun o0 =>
  rt [.sc,.sc,.sc,.own true 9 1] [a0,a1,a2,(atP o0 0)] k) u0
 | _,_=>False
abbrev Qey_e:Ent:=⟨[229],Qey⟩
theorem Qey_w:EntOK Tryz.prog TT Qey_e:=okF_ tabok (L:=[Qex_e]) ⟨Qex_w,trivial⟩ (keep:=[]) (l:=[]) Tryz.func229 trivial fun av k h=>by
 unfold Qey at h;split at h
 ·apply un_all h;clear h;intro a0 a1 a2 a3 h;exact km h
 ·exact h.elim
def Qez_r0 (v:List PV) (K:List PV→Prop) (x0k:PV→PV→PV→PV→PV→Prop):Prop :=
 un 5 (fun v0 v1 v2 v3 v4 =>
  binP .lss v2 v1 fun r0 =>
  iteP r0
   (elemP 4 v0 v2 fun c1 =>
   call Qey [.agg [(atP c1 0),(atP c1 1),(atP c1 2),(atP c1 3)]] fun o2 =>
   (1=1)∧(4≤16777216)∧(4=4)∧(0=0)∧(4=4)∧(flatCond [.pv (.str ⟨#[]⟩),.pv (I 0),.pv (I 0),.nil 9 1] [.pv (atP o2 0),.pv (atP o2 1),.pv (atP o2 2),.own 6])∧catP 4 v4 (.list 4 [[(atP o2 0),(atP o2 1),(atP o2 2),(atP o2 3)]]) fun r3 =>
   binP .add v2 (I 1) fun r4 =>
   K [v0,v1,r4,v3,r3])
   (x0k v0 v1 v2 v3 v4)) v
def Qez:GM
 | [.one a0],k =>
  (0=0)∧(0≤16777216)∧(4=4)∧lenP a0 fun r0 =>
  lp (fun L w=>Qez_r0 w L
   (fun q5 q6 q7 q8 q9=>rt [.own true 57 4] [q9] k)) [a0,r0,(I 0),(.list 4 []),(.list 4 [])]
 | _,_=>False
abbrev Qez_e:Ent:=⟨[260],Qez⟩
def Qez_l:List LE:=[⟨none,0,⟨[(2,.one (.own 1)),(3,.one (.own 0)),(7,.one zB),(8,.one zB),(9,.one zB)],[],[(1,⟨.deep,57,4,(.bool false)⟩),(0,⟨.deep,57,4,(.bool false)⟩)],2,20,[]⟩,fun K k v=>Qez_r0 v K (fun x0 x1 x2 x3 x4=>k (.exit 0) ⟨[(2,.one (.own 1)),(3,.one (.own 0)),(7,.one (.pv x0)),(8,.one (.pv x1)),(9,.one (.pv x2))],[],[(1,⟨.deep,57,4,x3⟩),(0,⟨.deep,57,4,x4⟩)],2,20,[]⟩)⟩]
theorem Qez_s:LEsOK [Qey_e] TT.nofl (kk [2,3,7,8,9]) Qez_l Tryz.f260 Qez_l:=⟨fun v K k h=>by
 apply un_all h;exact fun v0 v1 v2 v3 v4 h=>km h
 ,trivial⟩
theorem Qez_w:EntOK Tryz.prog TT Qez_e:=okF_ tabok (L:=[Qey_e]) ⟨Qey_w,trivial⟩ (keep:=(kk [2,3,7,8,9])) (l:=Qez_l) Tryz.func260 Qez_s fun av k h=>by
 unfold Qez at h;split at h
 ·exact km h
 ·exact h.elim
def Qfa:GM
 | [.agg u0],k=>un 2 (fun a0 a1 =>
  call Qew [.one a0] fun o0 =>
  call Qez [.one a1] fun o1 =>
  rt [.own true 257 17,.own true 57 4] [(atP o0 0),(atP o1 0)] k) u0
 | _,_=>False
abbrev Qfa_e:Ent:=⟨[199],Qfa⟩
theorem Qfa_w:EntOK Tryz.prog TT Qfa_e:=okF_ tabok (L:=[Qew_e,Qez_e]) ⟨Qew_w,Qez_w,trivial⟩ (keep:=[]) (l:=[]) Tryz.func199 trivial fun av k h=>by
 unfold Qfa at h;split at h
 ·apply un_all h;clear h;intro a0 a1 h;exact km h
 ·exact h.elim
def Qfb_r0 (v:List PV) (K:List PV→Prop) (x0k:PV→PV→PV→PV→PV→PV→PV→Prop):Prop :=
 un 7 (fun v0 v1 v2 v3 v4 v5 v6 =>
  binP .lss v2 v1 fun r0 =>
  iteP r0
   (elemP 2 v0 v2 fun c1 =>
   call Qfa [.agg [(atP c1 0),(atP c1 1)]] fun o2 =>
   (1=1)∧(2≤16777216)∧(2=2)∧(0=0)∧(2=2)∧(flatCond [.nil 257 17,.nil 57 4] [.own 6,.own 7])∧catP 2 v6 (.list 2 [[(atP o2 0),(atP o2 1)]]) fun r3 =>
   binP .add v2 (I 1) fun r4 =>
   K [v0,v1,r4,v3,v4,v5,r3])
   (x0k v0 v1 v2 v3 v4 v5 v6)) v
def Qfb:GM
 | [.agg u0],k=>un 2 (fun a0 a1 =>
  lenP a0 fun r0 =>
  lp (fun L w=>Qfb_r0 w L
   (fun q5 q6 q7 q8 q9 q10 q11=>rt [.own true 93 2,.sc] [q11,q8] k)) [a0,r0,(I 0),a1,(I 0),(.list 2 []),(.list 2 [])]) u0
 | _,_=>False
abbrev Qfb_e:Ent:=⟨[258],Qfb⟩
def Qfb_l:List LE:=[⟨none,0,⟨[(2,.one (.ptr 1 0)),(3,.one (.ptr 2 0)),(10,.one zB),(11,.one zB),(12,.one zB)],[(2,[.own 3,zB]),(1,[.own 4,zB])],[(4,⟨.deep,93,2,(.bool false)⟩),(3,⟨.deep,93,2,(.bool false)⟩)],5,25,[]⟩,fun K k v=>Qfb_r0 v K (fun x0 x1 x2 x3 x4 x5 x6=>k (.exit 0) ⟨[(2,.one (.ptr 1 0)),(3,.one (.ptr 2 0)),(10,.one (.pv x0)),(11,.one (.pv x1)),(12,.one (.pv x2))],[(2,[.own 3,.pv x3]),(1,[.own 4,.pv x4])],[(4,⟨.deep,93,2,x5⟩),(3,⟨.deep,93,2,x6⟩)],5,25,[]⟩)⟩]
theorem Qfb_s:LEsOK [Qfa_e] TT.nofl (kk [2,3,10,11,12]) Qfb_l Tryz.f258 Qfb_l:=⟨fun v K k h=>by
 apply un_all h;exact fun v0 v1 v2 v3 v4 v5 v6 h=>km h
 ,trivial⟩
theorem Qfb_w:EntOK Tryz.prog TT Qfb_e:=okF_ tabok (L:=[Qfa_e]) ⟨Qfa_w,trivial⟩ (keep:=(kk [2,3,10,11,12])) (l:=Qfb_l) Tryz.func258 Qfb_s fun av k h=>by
 unfold Qfb at h;split at h
 ·apply un_all h;clear h;intro a0 a1 h;exact km h
 ·exact h.elim
def Qfc_r0 (v:List PV) (K:List PV→Prop) (x0k:PV→PV→PV→PV→PV→Prop):Prop :=
 un 5 (fun v0 v1 v2 v3 v4 =>
  binP .lss v2 v1 fun r0 =>
  iteP r0
   (elemP 2 v0 v2 fun c1 =>
   call Qfb [.agg [(atP c1 0),(atP c1 1)]] fun o2 =>
   (1=1)∧(2≤16777216)∧(2=2)∧(0=0)∧(2=2)∧(flatCond [.nil 93 2,.pv (I 0)] [.own 3,.pv (atP o2 1)])∧catP 2 v4 (.list 2 [[(atP o2 0),(atP o2 1)]]) fun r3 =>
   binP .add v2 (I 1) fun r4 =>
   K [v0,v1,r4,v3,r3])
   (x0k v0 v1 v2 v3 v4)) v
def Qfc:GM
 | [.one a0],k =>
  (0=0)∧(0≤16777216)∧(2=2)∧lenP a0 fun r0 =>
  lp (fun L w=>Qfc_r0 w L
   (fun q5 q6 q7 q8 q9=>rt [.own true 136 2] [q9] k)) [a0,r0,(I 0),(.list 2 []),(.list 2 [])]
 | _,_=>False
abbrev Qfc_e:Ent:=⟨[197],Qfc⟩
def Qfc_l:List LE:=[⟨none,0,⟨[(2,.one (.own 1)),(3,.one (.own 0)),(7,.one zB),(8,.one zB),(9,.one zB)],[],[(1,⟨.deep,136,2,(.bool false)⟩),(0,⟨.deep,136,2,(.bool false)⟩)],2,20,[]⟩,fun K k v=>Qfc_r0 v K (fun x0 x1 x2 x3 x4=>k (.exit 0) ⟨[(2,.one (.own 1)),(3,.one (.own 0)),(7,.one (.pv x0)),(8,.one (.pv x1)),(9,.one (.pv x2))],[],[(1,⟨.deep,136,2,x3⟩),(0,⟨.deep,136,2,x4⟩)],2,20,[]⟩)⟩]
theorem Qfc_s:LEsOK [Qfb_e] TT.nofl (kk [2,3,7,8,9]) Qfc_l Tryz.f197 Qfc_l:=⟨fun v K k h=>by
 apply un_all h;exact fun v0 v1 v2 v3 v4 h=>km h
 ,trivial⟩
theorem Qfc_w:EntOK Tryz.prog TT Qfc_e:=okF_ tabok (L:=[Qfb_e]) ⟨Qfb_w,trivial⟩ (keep:=(kk [2,3,7,8,9])) (l:=Qfc_l) Tryz.func197 Qfc_s fun av k h=>by
 unfold Qfc at h;split at h
 ·exact km h
 ·exact h.elim
def Qfd:GM
 | [.agg u0],k=>un 51 (fun a0 a1 a2 a3 a4 a5 a6 a7 a8 a9 a10 a11 a12 a13 a14 a15 a16 a17 a18 a19 a20 a21 a22 a23 a24 a25 a26 a27 a28 a29 a30 a31 a32 a33 a34 a35 a36 a37 a38 a39 a40 a41 a42 a43 a44 a45 a46 a47 a48 a49 a50 =>
  call Qev [.agg [a0,a1,a2,a3,a4,a5,a6,a7,a8,a9,a10,a11,a12,a13,a14,a15,a16]] fun o0 =>
  call Qev [.agg [a17,a18,a19,a20,a21,a22,a23,a24,a25,a26,a27,a28,a29,a30,a31,a32,a33]] fun o1 =>
  call Qev [.agg [a34,a35,a36,a37,a38,a39,a40,a41,a42,a43,a44,a45,a46,a47,a48,a49,a50]] fun o2 =>
  rt [.sc,.sc,.sc,.sc,.sc,.sc,.sc,.sc,.own true 3 1,.sc,.own true 3 1,.sc,.sc,.own true 3 1,.sc,.sc,.own true 317 2,.sc,.sc,.sc,.sc,.sc,.sc,.sc,.sc,.own true 3 1,.sc,.own true 3 1,.sc,.sc,.own true 3 1,.sc,.sc,.own true 317 2,.sc,.sc,.sc,.sc,.sc,.sc,.sc,.sc,.own true 3 1,.sc,.own true 3 1,.sc,.sc,.own true 3 1,.sc,.sc,.own true 317 2] [(atP o0 0),(atP o0 1),(atP o0 2),(atP o0 3),(atP o0 4),(atP o0 5),(atP o0 6),(atP o0 7),(atP o0 8),(atP o0 9),(atP o0 10),(atP o0 11),(atP o0 12),(atP o0 13),(atP o0 14),(atP o0 15),(atP o0 16),(atP o1 0),(atP o1 1),(atP o1 2),(atP o1 3),(atP o1 4),(atP o1 5),(atP o1 6),(atP o1 7),(atP o1 8),(atP o1 9),(atP o1 10),(atP o1 11),(atP o1 12),(atP o1 13),(atP o1 14),(atP o1 15),(atP o1 16),(atP o2 0),(atP o2 1),(atP o2 2),(atP o2 3),(atP o2 4),(atP o2 5),(atP o2 6),(atP o2 7),(atP o2 8),(atP o2 9),(atP o2 10),(atP o2 11),(atP o2 12),(atP o2 13),(atP o2 14),(atP o2 15),(atP o2 16)] k) u0
 | _,_=>False
abbrev Qfd_e:Ent:=⟨[259],Qfd⟩
theorem Qfd_w:EntOK Tryz.prog TT Qfd_e:=okF_ tabok (L:=[Qev_e]) ⟨Qev_w,trivial⟩ (keep:=[]) (l:=[]) Tryz.func259 trivial fun av k h=>by
 unfold Qfd at h;split at h
 ·apply un_all h;clear h;intro a0 a1 a2 a3 a4 a5 a6 a7 a8 a9 a10 a11 a12 a13 a14 a15 a16 a17 a18 a19 a20 a21 a22 a23 a24 a25 a26 a27 a28 a29 a30 a31 a32 a33 a34 a35 a36 a37 a38 a39 a40 a41 a42 a43 a44 a45 a46 a47 a48 a49 a50 h;exact km h
 ·exact h.elim
def Qfe_r0 (v:List PV) (K:List PV→Prop) (x0k:PV→PV→PV→PV→PV→PV→PV→PV→PV→Prop):Prop :=
 un 9 (fun v0 v1 v2 v3 v4 v5 v6 v7 v8 =>
  binP .lss v2 v1 fun r0 =>
  iteP r0
   (elemP 1 v0 v2 fun c1 =>
   call Qew [.one (atP c1 0)] fun o2 =>
   (1=1)∧(1≤16777216)∧(1=1)∧(0=0)∧(1=1)∧(flatCond [.nil 257 17] [.own 7])∧catP 1 v8 (.list 1 [[(atP o2 0)]]) fun r3 =>
   binP .add v2 (I 1) fun r4 =>
   K [v0,v1,r4,v3,v4,v5,v6,v7,r3])
   (x0k v0 v1 v2 v3 v4 v5 v6 v7 v8)) v
def Qfe_r1 (v:List PV) (K:List PV→Prop) (x0k:PV→PV→PV→PV→PV→PV→PV→PV→PV→PV→PV→PV→Prop):Prop :=
 un 12 (fun v0 v1 v2 v3 v4 v5 v6 v7 v8 v9 v10 v11 =>
  binP .lss v5 v4 fun r0 =>
  iteP r0
   (elemP 51 v3 v5 fun c1 =>
   call Qfd [.agg [(atP c1 0),(atP c1 1),(atP c1 2),(atP c1 3),(atP c1 4),(atP c1 5),(atP c1 6),(atP c1 7),(atP c1 8),(atP c1 9),(atP c1 10),(atP c1 11),(atP c1 12),(atP c1 13),(atP c1 14),(atP c1 15),(atP c1 16),(atP c1 17),(atP c1 18),(atP c1 19),(atP c1 20),(atP c1 21),(atP c1 22),(atP c1 23),(atP c1 24),(atP c1 25),(atP c1 26),(atP c1 27),(atP c1 28),(atP c1 29),(atP c1 30),(atP c1 31),(atP c1 32),(atP c1 33),(atP c1 34),(atP c1 35),(atP c1 36),(atP c1 37),(atP c1 38),(atP c1 39),(atP c1 40),(atP c1 41),(atP c1 42),(atP c1 43),(atP c1 44),(atP c1 45),(atP c1 46),(atP c1 47),(atP c1 48),(atP c1 49),(atP c1 50)]] fun o2 =>
   (1=1)∧(51≤16777216)∧(51=51)∧(0=0)∧(51=51)∧(flatCond [.pv (I 0),.pv (I 0),.pv (I 0),.pv (I 0),.pv (I 0),.pv (I 0),.pv (I 0),.pv (I 0),.nil 3 1,.pv (I 0),.nil 3 1,.pv (I 0),.pv (I 0),.nil 3 1,.pv (I 0),zB,.nil 317 2,.pv (I 0),.pv (I 0),.pv (I 0),.pv (I 0),.pv (I 0),.pv (I 0),.pv (I 0),.pv (I 0),.nil 3 1,.pv (I 0),.nil 3 1,.pv (I 0),.pv (I 0),.nil 3 1,.pv (I 0),zB,.nil 317 2,.pv (I 0),.pv (I 0),.pv (I 0),.pv (I 0),.pv (I 0),.pv (I 0),.pv (I 0),.pv (I 0),.nil 3 1,.pv (I 0),.nil 3 1,.pv (I 0),.pv (I 0),.nil 3 1,.pv (I 0),zB,.nil 317 2] [.pv (atP o2 0),.pv (atP o2 1),.pv (atP o2 2),.pv (atP o2 3),.pv (atP o2 4),.pv (atP o2 5),.pv (atP o2 6),.pv (atP o2 7),.own 16,.pv (atP o2 9),.own 18,.pv (atP o2 11),.pv (atP o2 12),.own 21,.pv (atP o2 14),.pv (atP o2 15),.own 24,.pv (atP o2 17),.pv (atP o2 18),.pv (atP o2 19),.pv (atP o2 20),.pv (atP o2 21),.pv (atP o2 22),.pv (atP o2 23),.pv (atP o2 24),.own 33,.pv (atP o2 26),.own 35,.pv (atP o2 28),.pv (atP o2 29),.own 38,.pv (atP o2 31),.pv (atP o2 32),.own 41,.pv (atP o2 34),.pv (atP o2 35),.pv (atP o2 36),.pv (atP o2 37),.pv (atP o2 38),.pv (atP o2 39),.pv (atP o2 40),.pv (atP o2 41),.own 50,.pv (atP o2 43),.own 52,.pv (atP o2 45),.pv (atP o2 46),.own 55,.pv (atP o2 48),.pv (atP o2 49),.own 58])∧catP 51 v10 (.list 51 [[(atP o2 0),(atP o2 1),(atP o2 2),(atP o2 3),(atP o2 4),(atP o2 5),(atP o2 6),(atP o2 7),(atP o2 8),(atP o2 9),(atP o2 10),(atP o2 11),(atP o2 12),(atP o2 13),(atP o2 14),(atP o2 15),(atP o2 16),(atP o2 17),(atP o2 18),(atP o2 19),(atP o2 20),(atP o2 21),(atP o2 22),(atP o2 23),(atP o2 24),(atP o2 25),(atP o2 26),(atP o2 27),(atP o2 28),(atP o2 29),(atP o2 30),(atP o2 31),(atP o2 32),(atP o2 33),(atP o2 34),(atP o2 35),(atP o2 36),(atP o2 37),(atP o2 38),(atP o2 39),(atP o2 40),(atP o2 41),(atP o2 42),(atP o2 43),(atP o2 44),(atP o2 45),(atP o2 46),(atP o2 47),(atP o2 48),(atP o2 49),(atP o2 50)]]) fun r3 =>
   binP .add v5 (I 1) fun r4 =>
   K [v0,v1,v2,v3,v4,r4,v6,v7,v8,v9,r3,v11])
   (x0k v0 v1 v2 v3 v4 v5 v6 v7 v8 v9 v10 v11)) v
def Qfe:GM
 | [.agg u0],k=>un 2 (fun a0 a1 =>
  lenP a0 fun r0 =>
  lp (fun L w=>Qfe_r0 w L
   (fun q5 q6 q7 q8 q9 q10 q11 q12 q13=>lenP q9 fun r14 =>
    lp (fun L w=>Qfe_r1 w L
     (fun q15 q16 q17 q18 q19 q20 q21 q22 q23 q24 q25 q26=>rt [.own true 90 1,.own true 259 51] [q26,q25] k)) [q5,q6,q7,q9,r14,(I 0),q8,q9,q10,q11,q12,q13])) [a0,r0,(I 0),a0,a1,(.list 51 []),(.list 1 []),(.list 51 []),(.list 1 [])]) u0
 | _,_=>False
abbrev Qfe_e:Ent:=⟨[198],Qfe⟩
def Qfe_l:List LE:=[⟨none,0,⟨[(1,.one (.ptr 0 0)),(2,.one (.ptr 1 0)),(3,.one (.ptr 2 0)),(10,.one zB),(11,.one zB),(12,.one zB)],[(2,[.own 3,.own 4]),(1,[.own 5,.own 6]),(0,[zB,zB])],[(6,⟨.deep,259,51,(.bool false)⟩),(5,⟨.deep,90,1,(.bool false)⟩),(4,⟨.deep,259,51,(.bool false)⟩),(3,⟨.deep,90,1,(.bool false)⟩)],7,40,[]⟩,fun K k v=>Qfe_r0 v K (fun x0 x1 x2 x3 x4 x5 x6 x7 x8=>k (.exit 0) ⟨[(1,.one (.ptr 0 0)),(2,.one (.ptr 1 0)),(3,.one (.ptr 2 0)),(10,.one (.pv x0)),(11,.one (.pv x1)),(12,.one (.pv x2))],[(2,[.own 3,.own 4]),(1,[.own 5,.own 6]),(0,[.pv x3,.pv x4])],[(6,⟨.deep,259,51,x5⟩),(5,⟨.deep,90,1,x6⟩),(4,⟨.deep,259,51,x7⟩),(3,⟨.deep,90,1,x8⟩)],7,40,[]⟩)⟩,
 ⟨none,1,⟨[(1,.one (.ptr 0 0)),(2,.one (.ptr 1 0)),(3,.one (.ptr 2 0)),(10,.one zB),(11,.one zB),(12,.one zB),(25,.one zB),(26,.one zB),(27,.one zB)],[(2,[.own 3,.own 4]),(1,[.own 5,.own 6]),(0,[zB,zB])],[(6,⟨.deep,259,51,(.bool false)⟩),(5,⟨.deep,90,1,(.bool false)⟩),(4,⟨.deep,259,51,(.bool false)⟩),(3,⟨.deep,90,1,(.bool false)⟩)],7,40,[]⟩,fun K k v=>Qfe_r1 v K (fun x0 x1 x2 x3 x4 x5 x6 x7 x8 x9 x10 x11=>k (.exit 2) ⟨[(1,.one (.ptr 0 0)),(2,.one (.ptr 1 0)),(3,.one (.ptr 2 0)),(10,.one (.pv x0)),(11,.one (.pv x1)),(12,.one (.pv x2)),(25,.one (.pv x3)),(26,.one (.pv x4)),(27,.one (.pv x5))],[(2,[.own 3,.own 4]),(1,[.own 5,.own 6]),(0,[.pv x6,.pv x7])],[(6,⟨.deep,259,51,x8⟩),(5,⟨.deep,90,1,x9⟩),(4,⟨.deep,259,51,x10⟩),(3,⟨.deep,90,1,x11⟩)],7,40,[]⟩)⟩]
theorem Qfe_s:LEsOK [Qew_e,Qfd_e] TT.nofl (kk [1,2,3,10,11,12,25,26,27]) Qfe_l Tryz.f198 Qfe_l:=⟨fun v K k h=>by
 apply un_all h;exact fun v0 v1 v2 v3 v4 v5 v6 v7 v8 h=>km h
 ,fun v K k h=>by
 apply un_all h;exact fun v0 v1 v2 v3 v4 v5 v6 v7 v8 v9 v10 v11 h=>km h
 ,trivial⟩
theorem Qfe_w:EntOK Tryz.prog TT Qfe_e:=okF_ tabok (L:=[Qew_e,Qfd_e]) ⟨Qew_w,Qfd_w,trivial⟩ (keep:=(kk [1,2,3,10,11,12,25,26,27])) (l:=Qfe_l) Tryz.func198 Qfe_s fun av k h=>by
 unfold Qfe at h;split at h
 ·apply un_all h;clear h;intro a0 a1 h;exact km h
 ·exact h.elim
def Qff:GM
 | [.agg u0],k=>un 2 (fun a0 a1 =>
  call Qeq [.one a1] fun o0 =>
  rt [.sc,.own true 3 1] [a0,(atP o0 0)] k) u0
 | _,_=>False
abbrev Qff_e:Ent:=⟨[246],Qff⟩
theorem Qff_w:EntOK Tryz.prog TT Qff_e:=okF_ tabok (L:=[Qeq_e]) ⟨Qeq_w,trivial⟩ (keep:=[]) (l:=[]) Tryz.func246 trivial fun av k h=>by
 unfold Qff at h;split at h
 ·apply un_all h;clear h;intro a0 a1 h;exact km h
 ·exact h.elim
def Qfg:GM
 | [.agg u0],k=>un 13 (fun a0 a1 a2 a3 a4 a5 a6 a7 a8 a9 a10 a11 a12 =>
  call Qey [.agg [a1,a2,a3,a4]] fun o0 =>
  call Qey [.agg [a5,a6,a7,a8]] fun o1 =>
  call Qff [.agg [a9,a10]] fun o2 =>
  call Qff [.agg [a11,a12]] fun o3 =>
  rt [.sc,.sc,.sc,.sc,.own true 9 1,.sc,.sc,.sc,.own true 9 1,.sc,.own true 3 1,.sc,.own true 3 1] [a0,(atP o0 0),(atP o0 1),(atP o0 2),(atP o0 3),(atP o1 0),(atP o1 1),(atP o1 2),(atP o1 3),(atP o2 0),(atP o2 1),(atP o3 0),(atP o3 1)] k) u0
 | _,_=>False
abbrev Qfg_e:Ent:=⟨[247],Qfg⟩
theorem Qfg_w:EntOK Tryz.prog TT Qfg_e:=okF_ tabok (L:=[Qey_e,Qff_e]) ⟨Qey_w,Qff_w,trivial⟩ (keep:=[]) (l:=[]) Tryz.func247 trivial fun av k h=>by
 unfold Qfg at h;split at h
 ·apply un_all h;clear h;intro a0 a1 a2 a3 a4 a5 a6 a7 a8 a9 a10 a11 a12 h;exact km h
 ·exact h.elim
def Qfh:GM
 | [.agg u0],k=>un 21 (fun a0 a1 a2 a3 a4 a5 a6 a7 a8 a9 a10 a11 a12 a13 a14 a15 a16 a17 a18 a19 a20 =>
  call Qew [.one a0] fun o0 =>
  call Qey [.agg [a2,a3,a4,a5]] fun o1 =>
  call Qff [.agg [a6,a7]] fun o2 =>
  call Qfg [.agg [a8,a9,a10,a11,a12,a13,a14,a15,a16,a17,a18,a19,a20]] fun o3 =>
  rt [.own true 257 17,.sc,.sc,.sc,.sc,.own true 9 1,.sc,.own true 3 1,.sc,.sc,.sc,.sc,.own true 9 1,.sc,.sc,.sc,.own true 9 1,.sc,.own true 3 1,.sc,.own true 3 1] [(atP o0 0),a1,(atP o1 0),(atP o1 1),(atP o1 2),(atP o1 3),(atP o2 0),(atP o2 1),(atP o3 0),(atP o3 1),(atP o3 2),(atP o3 3),(atP o3 4),(atP o3 5),(atP o3 6),(atP o3 7),(atP o3 8),(atP o3 9),(atP o3 10),(atP o3 11),(atP o3 12)] k) u0
 | _,_=>False
abbrev Qfh_e:Ent:=⟨[177],Qfh⟩
theorem Qfh_w:EntOK Tryz.prog TT Qfh_e:=okF_ tabok (L:=[Qew_e,Qey_e,Qff_e,Qfg_e]) ⟨Qew_w,Qey_w,Qff_w,Qfg_w,trivial⟩ (keep:=[]) (l:=[]) Tryz.func177 trivial fun av k h=>by
 unfold Qfh at h;split at h
 ·apply un_all h;clear h;intro a0 a1 a2 a3 a4 a5 a6 a7 a8 a9 a10 a11 a12 a13 a14 a15 a16 a17 a18 a19 a20 h;exact km h
 ·exact h.elim
def Qfi:GM
 | [.agg u0],k=>un 23 (fun a0 a1 a2 a3 a4 a5 a6 a7 a8 a9 a10 a11 a12 a13 a14 a15 a16 a17 a18 a19 a20 a21 a22 =>
  call Qfh [.agg [a2,a3,a4,a5,a6,a7,a8,a9,a10,a11,a12,a13,a14,a15,a16,a17,a18,a19,a20,a21,a22]] fun o0 =>
  rt [.sc,.sc,.own true 257 17,.sc,.sc,.sc,.sc,.own true 9 1,.sc,.own true 3 1,.sc,.sc,.sc,.sc,.own true 9 1,.sc,.sc,.sc,.own true 9 1,.sc,.own true 3 1,.sc,.own true 3 1] [a0,a1,(atP o0 0),(atP o0 1),(atP o0 2),(atP o0 3),(atP o0 4),(atP o0 5),(atP o0 6),(atP o0 7),(atP o0 8),(atP o0 9),(atP o0 10),(atP o0 11),(atP o0 12),(atP o0 13),(atP o0 14),(atP o0 15),(atP o0 16),(atP o0 17),(atP o0 18),(atP o0 19),(atP o0 20)] k) u0
 | _,_=>False
abbrev Qfi_e:Ent:=⟨[224],Qfi⟩
theorem Qfi_w:EntOK Tryz.prog TT Qfi_e:=okF_ tabok (L:=[Qfh_e]) ⟨Qfh_w,trivial⟩ (keep:=[]) (l:=[]) Tryz.func224 trivial fun av k h=>by
 unfold Qfi at h;split at h
 ·apply un_all h;clear h;intro a0 a1 a2 a3 a4 a5 a6 a7 a8 a9 a10 a11 a12 a13 a14 a15 a16 a17 a18 a19 a20 a21 a22 h;exact km h
 ·exact h.elim
def Qfj_r0 (v:List PV) (K:List PV→Prop) (x0k:PV→PV→PV→PV→PV→Prop):Prop :=
 un 5 (fun v0 v1 v2 v3 v4 =>
  binP .lss v2 v1 fun r0 =>
  iteP r0
   (elemP 23 v0 v2 fun c1 =>
   call Qfi [.agg [(atP c1 0),(atP c1 1),(atP c1 2),(atP c1 3),(atP c1 4),(atP c1 5),(atP c1 6),(atP c1 7),(atP c1 8),(atP c1 9),(atP c1 10),(atP c1 11),(atP c1 12),(atP c1 13),(atP c1 14),(atP c1 15),(atP c1 16),(atP c1 17),(atP c1 18),(atP c1 19),(atP c1 20),(atP c1 21),(atP c1 22)]] fun o2 =>
   (1=1)∧(23≤16777216)∧(23=23)∧(0=0)∧(23=23)∧(flatCond [.pv (I 0),.pv (.str ⟨#[]⟩),.nil 257 17,zB,.pv (.str ⟨#[]⟩),.pv (I 0),.pv (I 0),.nil 9 1,.pv (I 0),.nil 3 1,.pv (I 0),.pv (.str ⟨#[]⟩),.pv (I 0),.pv (I 0),.nil 9 1,.pv (.str ⟨#[]⟩),.pv (I 0),.pv (I 0),.nil 9 1,.pv (I 0),.nil 3 1,.pv (I 0),.nil 3 1] [.pv (atP o2 0),.pv (atP o2 1),.own 8,.pv (atP o2 3),.pv (atP o2 4),.pv (atP o2 5),.pv (atP o2 6),.own 13,.pv (atP o2 8),.own 15,.pv (atP o2 10),.pv (atP o2 11),.pv (atP o2 12),.pv (atP o2 13),.own 20,.pv (atP o2 15),.pv (atP o2 16),.pv (atP o2 17),.own 24,.pv (atP o2 19),.own 26,.pv (atP o2 21),.own 28])∧catP 23 v4 (.list 23 [[(atP o2 0),(atP o2 1),(atP o2 2),(atP o2 3),(atP o2 4),(atP o2 5),(atP o2 6),(atP o2 7),(atP o2 8),(atP o2 9),(atP o2 10),(atP o2 11),(atP o2 12),(atP o2 13),(atP o2 14),(atP o2 15),(atP o2 16),(atP o2 17),(atP o2 18),(atP o2 19),(atP o2 20),(atP o2 21),(atP o2 22)]]) fun r3 =>
   binP .add v2 (I 1) fun r4 =>
   K [v0,v1,r4,v3,r3])
   (x0k v0 v1 v2 v3 v4)) v
def Qfj:GM
 | [.agg u0],k=>un 1 (fun a0 =>
  lenP a0 fun r0 =>
  lp (fun L w=>Qfj_r0 w L
   (fun q5 q6 q7 q8 q9=>rt [.own true 221 23] [q9] k)) [a0,r0,(I 0),(.list 23 []),(.list 23 [])]) u0
 | _,_=>False
abbrev Qfj_e:Ent:=⟨[158],Qfj⟩
def Qfj_l:List LE:=[⟨none,0,⟨[(2,.one (.ptr 1 0)),(3,.one (.ptr 2 0)),(8,.one zB),(9,.one zB),(10,.one zB)],[(2,[.own 3]),(1,[.own 4])],[(4,⟨.deep,221,23,(.bool false)⟩),(3,⟨.deep,221,23,(.bool false)⟩)],5,23,[]⟩,fun K k v=>Qfj_r0 v K (fun x0 x1 x2 x3 x4=>k (.exit 0) ⟨[(2,.one (.ptr 1 0)),(3,.one (.ptr 2 0)),(8,.one (.pv x0)),(9,.one (.pv x1)),(10,.one (.pv x2))],[(2,[.own 3]),(1,[.own 4])],[(4,⟨.deep,221,23,x3⟩),(3,⟨.deep,221,23,x4⟩)],5,23,[]⟩)⟩]
theorem Qfj_s:LEsOK [Qfi_e] TT.nofl (kk [2,3,8,9,10]) Qfj_l Tryz.f158 Qfj_l:=⟨fun v K k h=>by
 apply un_all h;exact fun v0 v1 v2 v3 v4 h=>km h
 ,trivial⟩
theorem Qfj_w:EntOK Tryz.prog TT Qfj_e:=okF_ tabok (L:=[Qfi_e]) ⟨Qfi_w,trivial⟩ (keep:=(kk [2,3,8,9,10])) (l:=Qfj_l) Tryz.func158 Qfj_s fun av k h=>by
 unfold Qfj at h;split at h
 ·apply un_all h;clear h;intro a0 h;exact km h
 ·exact h.elim
def Qfk_r0 (v:List PV) (K:List PV→Prop) (x0k:PV→PV→PV→PV→PV→PV→PV→PV→PV→PV→PV→PV→PV→PV→PV→PV→PV→PV→PV→PV→PV→PV→PV→PV→PV→PV→PV→Prop):Prop :=
 un 27 (fun v0 v1 v2 v3 v4 v5 v6 v7 v8 v9 v10 v11 v12 v13 v14 v15 v16 v17 v18 v19 v20 v21 v22 v23 v24 v25 v26 =>
  binP .lss v2 v1 fun r0 =>
  iteP r0
   (elemP 2 v0 v2 fun c1 =>
   call Qfa [.agg [(atP c1 0),(atP c1 1)]] fun o2 =>
   (1=1)∧(2≤16777216)∧(2=2)∧(0=0)∧(2=2)∧(flatCond [.nil 257 17,.nil 57 4] [.own 18,.own 19])∧catP 2 v21 (.list 2 [[(atP o2 0),(atP o2 1)]]) fun r3 =>
   binP .add v2 (I 1) fun r4 =>
   K [v0,v1,r4,v3,v4,v5,v6,v7,v8,v9,v10,v11,v12,v13,v14,v15,v16,v17,v18,v19,v20,r3,v22,v23,v24,v25,v26])
   (x0k v0 v1 v2 v3 v4 v5 v6 v7 v8 v9 v10 v11 v12 v13 v14 v15 v16 v17 v18 v19 v20 v21 v22 v23 v24 v25 v26)) v
def Qfk_r1 (v:List PV) (K:List PV→Prop) (x0k:PV→PV→PV→PV→PV→PV→PV→PV→PV→PV→PV→PV→PV→PV→PV→PV→PV→PV→PV→PV→PV→PV→PV→PV→PV→PV→PV→PV→PV→PV→Prop):Prop :=
 un 30 (fun v0 v1 v2 v3 v4 v5 v6 v7 v8 v9 v10 v11 v12 v13 v14 v15 v16 v17 v18 v19 v20 v21 v22 v23 v24 v25 v26 v27 v28 v29 =>
  binP .lss v5 v4 fun r0 =>
  iteP r0
   (elemP 3 v3 v5 fun c1 =>
   call Qfa [.agg [(atP c1 0),(atP c1 1)]] fun o2 =>
   call Qeq [.one (atP c1 2)] fun o3 =>
   (1=1)∧(3≤16777216)∧(3=3)∧(0=0)∧(3=3)∧(flatCond [.nil 257 17,.nil 57 4,.nil 3 1] [.own 18,.own 19,.own 20])∧catP 3 v23 (.list 3 [[(atP o2 0),(atP o2 1),(atP o3 0)]]) fun r4 =>
   binP .add v5 (I 1) fun r5 =>
   K [v0,v1,v2,v3,v4,r5,v6,v7,v8,v9,v10,v11,v12,v13,v14,v15,v16,v17,v18,v19,v20,v21,v22,r4,v24,v25,v26,v27,v28,v29])
   (x0k v0 v1 v2 v3 v4 v5 v6 v7 v8 v9 v10 v11 v12 v13 v14 v15 v16 v17 v18 v19 v20 v21 v22 v23 v24 v25 v26 v27 v28 v29)) v
def Qfk:GM
 | [.agg u0],k=>un 8 (fun a0 a1 a2 a3 a4 a5 a6 a7 =>
  call Qer [.one a1] fun o0 =>
  call Qfc [.one a4] fun o1 =>
  call Qfe [.agg [a5,a6]] fun o2 =>
  call Qfj [.agg [a7]] fun o3 =>
  lenP a2 fun r4 =>
  lp (fun L w=>Qfk_r0 w L
   (fun q5 q6 q7 q8 q9 q10 q11 q12 q13 q14 q15 q16 q17 q18 q19 q20 q21 q22 q23 q24 q25 q26 q27 q28 q29 q30 q31=>lenP q13 fun r32 =>
    lp (fun L w=>Qfk_r1 w L
     (fun q33 q34 q35 q36 q37 q38 q39 q40 q41 q42 q43 q44 q45 q46 q47 q48 q49 q50 q51 q52 q53 q54 q55 q56 q57 q58 q59 q60 q61 q62=>rt [.sc,.own true 195 1,.own true 93 2,.own true 197 3,.own true 136 2,.own true 90 1,.own true 259 51,.own true 221 23] [q39,q62,q57,q56,q61,q59,q60,q58] k)) [q5,q6,q7,q13,r32,(I 0),q8,q9,q10,q11,q12,q13,q14,q15,q16,q17,q18,q19,q20,q21,q22,q23,q24,q25,q26,q27,q28,q29,q30,q31])) [a2,r4,(I 0),a0,(I 0),a0,a1,a2,a3,a4,a5,a6,a7,(.list 23 []),(.list 51 []),(.list 1 []),(.list 2 []),(.list 3 []),(.list 2 []),(.list 1 []),(.list 3 []),(.list 2 []),(atP o3 0),(atP o2 0),(atP o2 1),(atP o1 0),(atP o0 0)]) u0
 | _,_=>False
abbrev Qfk_e:Ent:=⟨[117],Qfk⟩
def Qfk_l:List LE:=[⟨none,0,⟨[(1,.one (.ptr 0 0)),(2,.one (.ptr 1 0)),(3,.one (.ptr 7 0)),(24,.one zB),(25,.one zB),(26,.one zB)],[(7,[zB,.own 2,.own 8,.own 9,.own 3,.own 4,.own 5,.own 6]),(1,[zB,.own 10,.own 11,.own 12,.own 13,.own 14,.own 15,.own 16]),(0,[zB,zB,zB,zB,zB,zB,zB,zB])],[(16,⟨.deep,221,23,(.bool false)⟩),(15,⟨.deep,259,51,(.bool false)⟩),(14,⟨.deep,90,1,(.bool false)⟩),(13,⟨.deep,136,2,(.bool false)⟩),(12,⟨.deep,197,3,(.bool false)⟩),(11,⟨.deep,93,2,(.bool false)⟩),(10,⟨.deep,195,1,(.bool false)⟩),(9,⟨.deep,197,3,(.bool false)⟩),(8,⟨.deep,93,2,(.bool false)⟩),(6,⟨.deep,221,23,(.bool false)⟩),(4,⟨.deep,90,1,(.bool false)⟩),(5,⟨.deep,259,51,(.bool false)⟩),(3,⟨.deep,136,2,(.bool false)⟩),(2,⟨.deep,195,1,(.bool false)⟩)],17,59,[]⟩,fun K k v=>Qfk_r0 v K (fun x0 x1 x2 x3 x4 x5 x6 x7 x8 x9 x10 x11 x12 x13 x14 x15 x16 x17 x18 x19 x20 x21 x22 x23 x24 x25 x26=>k (.exit 0) ⟨[(1,.one (.ptr 0 0)),(2,.one (.ptr 1 0)),(3,.one (.ptr 7 0)),(24,.one (.pv x0)),(25,.one (.pv x1)),(26,.one (.pv x2))],[(7,[.pv x3,.own 2,.own 8,.own 9,.own 3,.own 4,.own 5,.own 6]),(1,[.pv x4,.own 10,.own 11,.own 12,.own 13,.own 14,.own 15,.own 16]),(0,[.pv x5,.pv x6,.pv x7,.pv x8,.pv x9,.pv x10,.pv x11,.pv x12])],[(16,⟨.deep,221,23,x13⟩),(15,⟨.deep,259,51,x14⟩),(14,⟨.deep,90,1,x15⟩),(13,⟨.deep,136,2,x16⟩),(12,⟨.deep,197,3,x17⟩),(11,⟨.deep,93,2,x18⟩),(10,⟨.deep,195,1,x19⟩),(9,⟨.deep,197,3,x20⟩),(8,⟨.deep,93,2,x21⟩),(6,⟨.deep,221,23,x22⟩),(4,⟨.deep,90,1,x23⟩),(5,⟨.deep,259,51,x24⟩),(3,⟨.deep,136,2,x25⟩),(2,⟨.deep,195,1,x26⟩)],17,59,[]⟩)⟩,
 ⟨none,1,⟨[(1,.one (.ptr 0 0)),(2,.one (.ptr 1 0)),(3,.one (.ptr 7 0)),(24,.one zB),(25,.one zB),(26,.one zB),(39,.one zB),(40,.one zB),(41,.one zB)],[(7,[zB,.own 2,.own 8,.own 9,.own 3,.own 4,.own 5,.own 6]),(1,[zB,.own 10,.own 11,.own 12,.own 13,.own 14,.own 15,.own 16]),(0,[zB,zB,zB,zB,zB,zB,zB,zB])],[(16,⟨.deep,221,23,(.bool false)⟩),(15,⟨.deep,259,51,(.bool false)⟩),(14,⟨.deep,90,1,(.bool false)⟩),(13,⟨.deep,136,2,(.bool false)⟩),(12,⟨.deep,197,3,(.bool false)⟩),(11,⟨.deep,93,2,(.bool false)⟩),(10,⟨.deep,195,1,(.bool false)⟩),(9,⟨.deep,197,3,(.bool false)⟩),(8,⟨.deep,93,2,(.bool false)⟩),(6,⟨.deep,221,23,(.bool false)⟩),(4,⟨.deep,90,1,(.bool false)⟩),(5,⟨.deep,259,51,(.bool false)⟩),(3,⟨.deep,136,2,(.bool false)⟩),(2,⟨.deep,195,1,(.bool false)⟩)],17,59,[]⟩,fun K k v=>Qfk_r1 v K (fun x0 x1 x2 x3 x4 x5 x6 x7 x8 x9 x10 x11 x12 x13 x14 x15 x16 x17 x18 x19 x20 x21 x22 x23 x24 x25 x26 x27 x28 x29=>k (.exit 2) ⟨[(1,.one (.ptr 0 0)),(2,.one (.ptr 1 0)),(3,.one (.ptr 7 0)),(24,.one (.pv x0)),(25,.one (.pv x1)),(26,.one (.pv x2)),(39,.one (.pv x3)),(40,.one (.pv x4)),(41,.one (.pv x5))],[(7,[.pv x6,.own 2,.own 8,.own 9,.own 3,.own 4,.own 5,.own 6]),(1,[.pv x7,.own 10,.own 11,.own 12,.own 13,.own 14,.own 15,.own 16]),(0,[.pv x8,.pv x9,.pv x10,.pv x11,.pv x12,.pv x13,.pv x14,.pv x15])],[(16,⟨.deep,221,23,x16⟩),(15,⟨.deep,259,51,x17⟩),(14,⟨.deep,90,1,x18⟩),(13,⟨.deep,136,2,x19⟩),(12,⟨.deep,197,3,x20⟩),(11,⟨.deep,93,2,x21⟩),(10,⟨.deep,195,1,x22⟩),(9,⟨.deep,197,3,x23⟩),(8,⟨.deep,93,2,x24⟩),(6,⟨.deep,221,23,x25⟩),(4,⟨.deep,90,1,x26⟩),(5,⟨.deep,259,51,x27⟩),(3,⟨.deep,136,2,x28⟩),(2,⟨.deep,195,1,x29⟩)],17,59,[]⟩)⟩]
theorem Qfk_s:LEsOK [Qer_e,Qfc_e,Qfe_e,Qfj_e,Qfa_e,Qeq_e] TT.nofl (kk [1,2,3,24,25,26,39,40,41]) Qfk_l Tryz.f117 Qfk_l:=⟨fun v K k h=>by
 apply un_all h;exact fun v0 v1 v2 v3 v4 v5 v6 v7 v8 v9 v10 v11 v12 v13 v14 v15 v16 v17 v18 v19 v20 v21 v22 v23 v24 v25 v26 h=>km h
 ,fun v K k h=>by
 apply un_all h;exact fun v0 v1 v2 v3 v4 v5 v6 v7 v8 v9 v10 v11 v12 v13 v14 v15 v16 v17 v18 v19 v20 v21 v22 v23 v24 v25 v26 v27 v28 v29 h=>km h
 ,trivial⟩
theorem Qfk_w:EntOK Tryz.prog TT Qfk_e:=okF_ tabok (L:=[Qer_e,Qfc_e,Qfe_e,Qfj_e,Qfa_e,Qeq_e]) ⟨Qer_w,Qfc_w,Qfe_w,Qfj_w,Qfa_w,Qeq_w,trivial⟩ (keep:=(kk [1,2,3,24,25,26,39,40,41])) (l:=Qfk_l) Tryz.func117 Qfk_s fun av k h=>by
 unfold Qfk at h;split at h
 ·apply un_all h;clear h;intro a0 a1 a2 a3 a4 a5 a6 a7 h;exact km h
 ·exact h.elim
def Qfl:GM
 | [.one a0,.one a1,.one a2],k =>
  binP .leq a1 a0 fun r0 =>
  iteP r0
   (binP .leq a0 a2 fun r1 =>
   rt [.sc] [r1] k)
   (rt [.sc] [(.bool false)] k)
 | _,_=>False
abbrev Qfl_e:Ent:=⟨[266],Qfl⟩
theorem Qfl_w:EntOK Tryz.prog TT Qfl_e:=okF_ tabok (L:=[]) trivial (keep:=[]) (l:=[]) Tryz.func266 trivial fun av k h=>by
 unfold Qfl at h;split at h
 ·exact km h
 ·exact h.elim
def Qfm:GM
 | [.one a0],k =>
  call Qfl [.one a0,.one (I 0),.one (I 2147483646)] fun o0 =>
  rt [.sc] [(atP o0 0)] k
 | _,_=>False
abbrev Qfm_e:Ent:=⟨[404],Qfm⟩
theorem Qfm_w:EntOK Tryz.prog TT Qfm_e:=okF_ tabok (L:=[Qfl_e]) ⟨Qfl_w,trivial⟩ (keep:=[]) (l:=[]) Tryz.func404 trivial fun av k h=>by
 unfold Qfm at h;split at h
 ·exact km h
 ·exact h.elim
def Qfn:GM
 | [.agg u0],k=>un 16 (fun a0 a1 a2 a3 a4 a5 a6 a7 a8 a9 a10 a11 a12 a13 a14 a15 =>
  binP .geq a3 (I 0) fun r0 =>
  iteP r0
   (binP .leq a3 a4 fun r1 =>
   iteP r1
    (binP .leq a4 (I 100000) fun r2 =>
    iteP r2
     (binP .sub a4 a3 fun r3 =>
     binP .leq r3 (I 200) fun r4 =>
     rt [.sc] [r4] k)
     (rt [.sc] [(.bool false)] k))
    (rt [.sc] [(.bool false)] k))
   (rt [.sc] [(.bool false)] k)) u0
 | _,_=>False
abbrev Qfn_e:Ent:=⟨[409],Qfn⟩
theorem Qfn_w:EntOK Tryz.prog TT Qfn_e:=okF_ tabok (L:=[]) trivial (keep:=[]) (l:=[]) Tryz.func409 trivial fun av k h=>by
 unfold Qfn at h;split at h
 ·apply un_all h;clear h;intro a0 a1 a2 a3 a4 a5 a6 a7 a8 a9 a10 a11 a12 a13 a14 a15 h;exact km h
 ·exact h.elim
def Qfo_r0 (v:List PV) (K:List PV→Prop) (x0k:Prop) (x1k:PV→PV→PV→PV→Prop):Prop :=
 un 4 (fun v0 v1 v2 v3 =>
  binP .lss v3 v2 fun r0 =>
  iteP r0
   (binP .gtr v3 (I 0) fun r1 =>
   iteP r1
    (elemP 1 v0 v3 fun c2 =>
    binP .sub v3 (I 1) fun r3 =>
    elemP 1 v0 r3 fun c4 =>
    binP .leq (atP c2 0) (atP c4 0) fun r5 =>
    iteP r5
     (x0k)
     (binP .add v3 (I 1) fun r6 =>
     K [v0,v1,v2,r6]))
    (binP .add v3 (I 1) fun r7 =>
    K [v0,v1,v2,r7]))
   (x1k v0 v1 v2 v3)) v
def Qfo:GM
 | [.one a0],k =>
  lenP a0 fun r0 =>
  lp (fun L w=>Qfo_r0 w L
   (rt [.sc] [(.bool false)] k)
   (fun q8 q9 q10 q11=>rt [.sc] [(.bool true)] k)) [a0,(.bool false),r0,(I 0)]
 | _,_=>False
abbrev Qfo_e:Ent:=⟨[370],Qfo⟩
def Qfo_l:List LE:=[⟨none,0,⟨[(0,.one zB),(2,.one zB),(5,.one zB),(6,.one zB)],[],[],0,24,[]⟩,fun K k v=>Qfo_r0 v K (k .ret ⟨[(2,.one (.kb false))],[],[],0,24,[]⟩) (fun x0 x1 x2 x3=>k (.exit 0) ⟨[(0,.one (.pv x0)),(2,.one (.pv x1)),(5,.one (.pv x2)),(6,.one (.pv x3))],[],[],0,24,[]⟩)⟩]
theorem Qfo_s:LEsOK [] TT.nofl (kk [0,2,5,6,12,13,14,15,16,17,18,19,20,21]) Qfo_l Tryz.f370 Qfo_l:=⟨fun v K k h=>by
 apply un_all h;exact fun v0 v1 v2 v3 h=>km h
 ,trivial⟩
theorem Qfo_w:EntOK Tryz.prog TT Qfo_e:=okF_ tabok (L:=[]) trivial (keep:=(kk [0,2,5,6,12,13,14,15,16,17,18,19,20,21])) (l:=Qfo_l) Tryz.func370 Qfo_s fun av k h=>by
 unfold Qfo at h;split at h
 ·exact km h
 ·exact h.elim
def Qfp:GM
 | [.one a0],k =>
  call Qfl [.one a0,.one (I 1),.one (I 99)] fun o0 =>
  rt [.sc] [(atP o0 0)] k
 | _,_=>False
abbrev Qfp_e:Ent:=⟨[371],Qfp⟩
theorem Qfp_w:EntOK Tryz.prog TT Qfp_e:=okF_ tabok (L:=[Qfl_e]) ⟨Qfl_w,trivial⟩ (keep:=[]) (l:=[]) Tryz.func371 trivial fun av k h=>by
 unfold Qfp at h;split at h
 ·exact km h
 ·exact h.elim
def Qfq:GM
 | [.agg u0],k=>un 2 (fun a0 a1 =>
  lenP a0 fun r0 =>
  call Qfl [.one r0,.one (I 1),.one (I 4)] fun o1 =>
  iteP (atP o1 0)
   (call Qfo [.one a0] fun o2 =>
   iteP (atP o2 0)
    (elemP 1 a0 (I 0) fun c3 =>
    call Qfp [.one (atP c3 0)] fun o4 =>
    iteP (atP o4 0)
     (lenP a0 fun r5 =>
     binP .sub r5 (I 1) fun r6 =>
     elemP 1 a0 r6 fun c7 =>
     call Qfp [.one (atP c7 0)] fun o8 =>
     iteP (atP o8 0)
      (lenP a0 fun r9 =>
      call Qfl [.one a1,.one (I 1),.one r9] fun o10 =>
      rt [.sc] [(atP o10 0)] k)
      (rt [.sc] [(.bool false)] k))
     (rt [.sc] [(.bool false)] k))
    (rt [.sc] [(.bool false)] k))
   (rt [.sc] [(.bool false)] k)) u0
 | _,_=>False
abbrev Qfq_e:Ent:=⟨[322],Qfq⟩
theorem Qfq_w:EntOK Tryz.prog TT Qfq_e:=okF_ tabok (L:=[Qfl_e,Qfo_e,Qfp_e]) ⟨Qfl_w,Qfo_w,Qfp_w,trivial⟩ (keep:=[]) (l:=[]) Tryz.func322 trivial fun av k h=>by
 unfold Qfq at h;split at h
 ·apply un_all h;clear h;intro a0 a1 h;exact km h
 ·exact h.elim
def Qfr:GM
 | [.agg u0],k=>un 2 (fun a0 a1 =>
  binP .eql a1 (I 0) fun r0 =>
  iteP r0
   (lenP a0 fun r1 =>
   binP .eql r1 (I 0) fun r2 =>
   rt [.sc] [r2] k)
   (rt [.sc] [(.bool false)] k)) u0
 | _,_=>False
abbrev Qfr_e:Ent:=⟨[412],Qfr⟩
theorem Qfr_w:EntOK Tryz.prog TT Qfr_e:=okF_ tabok (L:=[]) trivial (keep:=[]) (l:=[]) Tryz.func412 trivial fun av k h=>by
 unfold Qfr at h;split at h
 ·apply un_all h;clear h;intro a0 a1 h;exact km h
 ·exact h.elim
def Qfs:GM
 | [.agg u0],k=>un 2 (fun a0 a1 =>
  call Qfr [.agg [a0,a1]] fun o0 =>
  iteP (atP o0 0)
   (rt [.sc] [(.bool true)] k)
   (call Qfq [.agg [a0,a1]] fun o1 =>
   rt [.sc] [(atP o1 0)] k)) u0
 | _,_=>False
abbrev Qfs_e:Ent:=⟨[410],Qfs⟩
theorem Qfs_w:EntOK Tryz.prog TT Qfs_e:=okF_ tabok (L:=[Qfr_e,Qfq_e]) ⟨Qfr_w,Qfq_w,trivial⟩ (keep:=[]) (l:=[]) Tryz.func410 trivial fun av k h=>by
 unfold Qfs at h;split at h
 ·apply un_all h;clear h;intro a0 a1 h;exact km h
 ·exact h.elim
def Qft:GM
 | [.one a0,.agg u0],k=>un 2 (fun a1 a2 =>
  call Qfr [.agg [a1,a2]] fun o0 =>
  iteP (atP o0 0)
   (binP .eql a0 (I 0) fun r1 =>
   rt [.sc] [r1] k)
   (call Qfl [.one a0,.one (I 1),.one (I 500)] fun o2 =>
   rt [.sc] [(atP o2 0)] k)) u0
 | _,_=>False
abbrev Qft_e:Ent:=⟨[411],Qft⟩
theorem Qft_w:EntOK Tryz.prog TT Qft_e:=okF_ tabok (L:=[Qfr_e,Qfl_e]) ⟨Qfr_w,Qfl_w,trivial⟩ (keep:=[]) (l:=[]) Tryz.func411 trivial fun av k h=>by
 unfold Qft at h;split at h
 ·apply un_all h;clear h;intro a1 a2 h;exact km h
 ·exact h.elim
def Qfu:GM
 | [.agg u0],k=>un 16 (fun a0 a1 a2 a3 a4 a5 a6 a7 a8 a9 a10 a11 a12 a13 a14 a15 =>
  call Qfm [.one a0] fun o0 =>
  iteP (atP o0 0)
   (call Qfm [.one a6] fun o1 =>
   iteP (atP o1 0)
    (call Qfm [.one a7] fun o2 =>
    iteP (atP o2 0)
     (call Qfl [.one a1,.one (I 0),.one (I 200)] fun o3 =>
     iteP (atP o3 0)
      (call Qfl [.one a2,.one (I 1),.one (I 3)] fun o4 =>
      iteP (atP o4 0)
       (call Qfn [.agg [a0,a1,a2,a3,a4,a5,a6,a7,a8,a9,a10,a11,a12,a13,a14,a15]] fun o5 =>
       iteP (atP o5 0)
        (call Qfl [.one a5,.one (I 0),.one (I 12)] fun o6 =>
        iteP (atP o6 0)
         (call Qfq [.agg [a8,a9]] fun o7 =>
         iteP (atP o7 0)
          (call Qfs [.agg [a10,a11]] fun o8 =>
          iteP (atP o8 0)
           (call Qfs [.agg [a13,a14]] fun o9 =>
           iteP (atP o9 0)
            (call Qft [.one a12,.agg [a10,a11]] fun o10 =>
            iteP (atP o10 0)
             (iteP a15
              (call Qfr [.agg [a13,a14]] fun o11 =>
              unP .not (atP o11 0) fun r12 =>
              rt [.sc] [r12] k)
              (rt [.sc] [(.bool true)] k))
             (rt [.sc] [(.bool false)] k))
            (rt [.sc] [(.bool false)] k))
           (rt [.sc] [(.bool false)] k))
          (rt [.sc] [(.bool false)] k))
         (rt [.sc] [(.bool false)] k))
        (rt [.sc] [(.bool false)] k))
       (rt [.sc] [(.bool false)] k))
      (rt [.sc] [(.bool false)] k))
     (rt [.sc] [(.bool false)] k))
    (rt [.sc] [(.bool false)] k))
   (rt [.sc] [(.bool false)] k)) u0
 | _,_=>False
abbrev Qfu_e:Ent:=⟨[378],Qfu⟩
theorem Qfu_w:EntOK Tryz.prog TT Qfu_e:=okF_ tabok (L:=[Qfm_e,Qfl_e,Qfn_e,Qfq_e,Qfs_e,Qft_e,Qfr_e]) ⟨Qfm_w,Qfl_w,Qfn_w,Qfq_w,Qfs_w,Qft_w,Qfr_w,trivial⟩ (keep:=[]) (l:=[]) Tryz.func378 trivial fun av k h=>by
 unfold Qfu at h;split at h
 ·apply un_all h;clear h;intro a0 a1 a2 a3 a4 a5 a6 a7 a8 a9 a10 a11 a12 a13 a14 a15 h;exact km h
 ·exact h.elim
def Qfv:GM
 | [.agg u0],k=>un 2 (fun a0 a1 =>
  lenP a0 fun r0 =>
  (2=2)∧(2≤16777216)∧(1=1)∧(0=0)∧(1=1)∧(flatCond [.pv (I 0)] [.pv a1])∧(1=1)∧(1=1)∧(flatCond [.pv (I 0)] [.pv r0])∧(flatRows a0)∧catP 1 (.list 1 [[a1],[r0]]) a0 fun r1 =>
  rt [.own true 3 1] [r1] k) u0
 | _,_=>False
abbrev Qfv_e:Ent:=⟨[418],Qfv⟩
theorem Qfv_w:EntOK Tryz.prog TT Qfv_e:=okF_ tabok (L:=[]) trivial (keep:=[]) (l:=[]) Tryz.func418 trivial fun av k h=>by
 unfold Qfv at h;split at h
 ·apply un_all h;clear h;intro a0 a1 h;exact km h
 ·exact h.elim
def Qfw:GM
 | [.one a0,.one a1],k =>
  call Qfl [.one a1,.one (I 1),.one (I 1000000000000)] fun o0 =>
  unP .not (atP o0 0) fun r1 =>
  iteP r1
   (rt [.sc] [(I 0)] k)
   (binP .rem a0 a1 fun r2 =>
   binP .add r2 a1 fun r3 =>
   binP .rem r3 a1 fun r4 =>
   rt [.sc] [r4] k)
 | _,_=>False
abbrev Qfw_e:Ent:=⟨[306],Qfw⟩
theorem Qfw_w:EntOK Tryz.prog TT Qfw_e:=okF_ tabok (L:=[Qfl_e]) ⟨Qfl_w,trivial⟩ (keep:=[]) (l:=[]) Tryz.func306 trivial fun av k h=>by
 unfold Qfw at h;split at h
 ·exact km h
 ·exact h.elim
def Qfx_r0 (v:List PV) (K:List PV→Prop) (x0k:PV→PV→PV→PV→PV→Prop):Prop :=
 un 5 (fun v0 v1 v2 v3 v4 =>
  binP .lss v4 v3 fun r0 =>
  iteP r0
   (elemP 1 v2 v4 fun c1 =>
   binP .mul v1 (I 1000003) fun r2 =>
   call Qfw [.one (atP c1 0),.one (I 2147483647)] fun o3 =>
   binP .add r2 (atP o3 0) fun r4 =>
   binP .add r4 (I 13) fun r5 =>
   binP .rem r5 (I 2147483647) fun r6 =>
   binP .add v4 (I 1) fun r7 =>
   K [v0,r6,v2,v3,r7])
   (x0k v0 v1 v2 v3 v4)) v
def Qfx:GM
 | [.one a0],k =>
  lenP a0 fun r0 =>
  lp (fun L w=>Qfx_r0 w L
   (fun q8 q9 q10 q11 q12=>rt [.sc] [q9] k)) [(I 0),(I 11),a0,r0,(I 0)]
 | _,_=>False
abbrev Qfx_e:Ent:=⟨[250],Qfx⟩
def Qfx_l:List LE:=[⟨none,0,⟨[(2,.one zB),(3,.one zB),(6,.one zB),(7,.one zB),(8,.one zB)],[],[],0,21,[]⟩,fun K k v=>Qfx_r0 v K (fun x0 x1 x2 x3 x4=>k (.exit 0) ⟨[(2,.one (.pv x0)),(3,.one (.pv x1)),(6,.one (.pv x2)),(7,.one (.pv x3)),(8,.one (.pv x4))],[],[],0,21,[]⟩)⟩]
theorem Qfx_s:LEsOK [Qfw_e] TT.nofl (kk [2,3,6,7,8]) Qfx_l Tryz.f250 Qfx_l:=⟨fun v K k h=>by
 apply un_all h;exact fun v0 v1 v2 v3 v4 h=>km h
 ,trivial⟩
theorem Qfx_w:EntOK Tryz.prog TT Qfx_e:=okF_ tabok (L:=[Qfw_e]) ⟨Qfw_w,trivial⟩ (keep:=(kk [2,3,6,7,8])) (l:=Qfx_l) Tryz.func250 Qfx_s fun av k h=>by
 unfold Qfx at h;split at h
 ·exact km h
 ·exact h.elim
def Qfy:GM
 | [.agg u0,.one a2],k=>un 2 (fun a0 a1 =>
  (2=2)∧(2≤16777216)∧(1=1)∧(0=0)∧(1=1)∧(flatCond [.pv (I 0)] [.pv (I 239)])∧(1=1)∧(1=1)∧(flatCond [.pv (I 0)] [.pv a2])∧call Qfv [.agg [a0,a1]] fun o0 =>
  catP 1 (.list 1 [[(I 239)],[a2]]) (atP o0 0) fun r1 =>
  call Qfx [.one r1] fun o2 =>
  rt [.sc] [(atP o2 0)] k) u0
 | _,_=>False
abbrev Qfy_e:Ent:=⟨[402],Qfy⟩
theorem Qfy_w:EntOK Tryz.prog TT Qfy_e:=okF_ tabok (L:=[Qfv_e,Qfx_e]) ⟨Qfv_w,Qfx_w,trivial⟩ (keep:=[]) (l:=[]) Tryz.func402 trivial fun av k h=>by
 unfold Qfy at h;split at h
 ·apply un_all h;clear h;intro a0 a1 h;exact km h
 ·exact h.elim
def Qfz:GM
 | [.one a0],k =>
  iteP a0
   (rt [.sc] [(I 1)] k)
   (rt [.sc] [(I 0)] k)
 | _,_=>False
abbrev Qfz_e:Ent:=⟨[419],Qfz⟩
theorem Qfz_w:EntOK Tryz.prog TT Qfz_e:=okF_ tabok (L:=[]) trivial (keep:=[]) (l:=[]) Tryz.func419 trivial fun av k h=>by
 unfold Qfz at h;split at h
 ·exact km h
 ·exact h.elim
def Qga:GM
 | [.nil 3 1,.one a0],k =>
  binP .lss a0 (I 0) fun r0 =>
  iteP r0
   (False)
   (lenP (.list 1 []) fun r1 =>
   binP .sub (I 0) r1 fun r2 =>
   binP .sub a0 r2 fun r3 =>
   binP .gtr r3 (I 0) fun r4 =>
   iteP r4
    (natP (I 0) fun n5 =>
    (0=0)∧(n5=0)∧((Go.Ev.tI.ik=some Go.IntKind.i64))∧(1=1)∧makeP 1 r3 [(I 0)] fun r6 =>
    lenP (.list 1 []) fun r7 =>
    natP r7 fun n8 =>
    cutP 1 r6 none (some n8) fun r9 =>
    rt [.own true 3 1] [r9] k)
    (rt [.own true 3 1] [(.list 1 [])] k))
 | _,_=>False
abbrev Qga_e:Ent:=⟨[428,999999],Qga⟩
theorem Qga_w:EntOK Tryz.prog TT Qga_e:=okM_ tabok (L:=[]) trivial (keep:=[]) (l:=[]) Tryz.func428 trivial fun av k h=>by
 unfold Qga at h;split at h
 ·exact km h
 ·exact h.elim
def Qgb_r0 (v:List PV) (K:List PV→Prop) (x0k:PV→PV→PV→PV→PV→PV→Prop):Prop :=
 un 6 (fun v0 v1 v2 v3 v4 v5 =>
  binP .lss v4 v3 fun r0 =>
  iteP r0
   (elemP 1 v2 v4 fun c1 =>
   lenP (atP c1 0) fun r2 =>
   binP .add v1 r2 fun r3 =>
   binP .lss r3 (I 0) fun r4 =>
   iteP r4
    (False)
    (binP .add v4 (I 1) fun r5 =>
    K [v0,r3,v2,v3,r5,v5]))
   (x0k v0 v1 v2 v3 v4 v5)) v
def Qgb_r1 (v:List PV) (K:List PV→Prop) (x0k:PV→PV→PV→PV→PV→PV→PV→PV→PV→PV→Prop):Prop :=
 un 10 (fun v0 v1 v2 v3 v4 v5 v6 v7 v8 v9 =>
  binP .lss v7 v6 fun r0 =>
  iteP r0
   (elemP 1 v5 v7 fun c1 =>
   (flatRows (atP c1 0))∧catP 1 v8 (atP c1 0) fun r2 =>
   binP .add v7 (I 1) fun r3 =>
   K [v0,v1,v2,v3,v4,v5,v6,r3,r2,v9])
   (x0k v0 v1 v2 v3 v4 v5 v6 v7 v8 v9)) v
def Qgb:GM
 | [.one a0],k =>
  lenP a0 fun r0 =>
  lp (fun L w=>Qgb_r0 w L
   (fun q6 q7 q8 q9 q10 q11=>call Qga [.nil 3 1,.one q7] fun o12 =>
    lenP q6 fun r13 =>
    lp (fun L w=>Qgb_r1 w L
     (fun q14 q15 q16 q17 q18 q19 q20 q21 q22 q23=>rt [.own true 3 1] [q22] k)) [q6,q7,q8,q9,q10,q6,r13,(I 0),(atP o12 0),q11])) [a0,(I 0),a0,r0,(I 0),(.list 1 [])]
 | _,_=>False
abbrev Qgb_e:Ent:=⟨[417],Qgb⟩
def Qgb_l:List LE:=[⟨none,0,⟨[(0,.one zB),(2,.one (.own 0)),(3,.one zB),(9,.one zB),(10,.one zB),(11,.one zB)],[],[(0,⟨.deep,3,1,(.bool false)⟩)],1,36,[]⟩,fun K k v=>Qgb_r0 v K (fun x0 x1 x2 x3 x4 x5=>k (.exit 0) ⟨[(0,.one (.pv x0)),(2,.one (.own 0)),(3,.one (.pv x1)),(9,.one (.pv x2)),(10,.one (.pv x3)),(11,.one (.pv x4))],[],[(0,⟨.deep,3,1,x5⟩)],1,36,[]⟩)⟩,
 ⟨none,1,⟨[(0,.one zB),(2,.one (.own 0)),(3,.one zB),(6,.one (.own 1)),(9,.one zB),(10,.one zB),(11,.one zB),(25,.one zB),(26,.one zB),(27,.one zB)],[],[(1,⟨.deep,3,1,(.bool false)⟩),(0,⟨.deep,3,1,(.bool false)⟩)],2,36,[]⟩,fun K k v=>Qgb_r1 v K (fun x0 x1 x2 x3 x4 x5 x6 x7 x8 x9=>k (.exit 2) ⟨[(0,.one (.pv x0)),(2,.one (.own 0)),(3,.one (.pv x1)),(6,.one (.own 1)),(9,.one (.pv x2)),(10,.one (.pv x3)),(11,.one (.pv x4)),(25,.one (.pv x5)),(26,.one (.pv x6)),(27,.one (.pv x7))],[],[(1,⟨.deep,3,1,x8⟩),(0,⟨.deep,3,1,x9⟩)],2,36,[]⟩)⟩]
theorem Qgb_s:LEsOK [Qga_e] TT (kk [0,2,3,6,9,10,11,25,26,27]) Qgb_l Tryz.f417 Qgb_l:=⟨fun v K k h=>by
 apply un_all h;exact fun v0 v1 v2 v3 v4 v5 h=>km h
 ,fun v K k h=>by
 apply un_all h;exact fun v0 v1 v2 v3 v4 v5 v6 v7 v8 v9 h=>km h
 ,trivial⟩
theorem Qgb_w:EntOK Tryz.prog TT Qgb_e:=ok_ tabok (L:=[Qga_e]) ⟨Qga_w,trivial⟩ (keep:=(kk [0,2,3,6,9,10,11,25,26,27])) (l:=Qgb_l) Tryz.func417 Qgb_s fun av k h=>by
 unfold Qgb at h;split at h
 ·exact km h
 ·exact h.elim
def Qgc:GM
 | [.agg u0],k=>un 16 (fun a0 a1 a2 a3 a4 a5 a6 a7 a8 a9 a10 a11 a12 a13 a14 a15 =>
  (8=8)∧(8≤16777216)∧(1=1)∧(0=0)∧(1=1)∧(flatCond [.pv (I 0)] [.pv a0])∧(1=1)∧(1=1)∧(flatCond [.pv (I 0)] [.pv a1])∧(2=2)∧(1=1)∧(flatCond [.pv (I 0)] [.pv a2])∧(3=3)∧(1=1)∧(flatCond [.pv (I 0)] [.pv a3])∧(4=4)∧(1=1)∧(flatCond [.pv (I 0)] [.pv a4])∧(5=5)∧(1=1)∧(flatCond [.pv (I 0)] [.pv a5])∧(6=6)∧(1=1)∧(flatCond [.pv (I 0)] [.pv a6])∧(7=7)∧(1=1)∧(flatCond [.pv (I 0)] [.pv a7])∧call Qfv [.agg [a8,a9]] fun o0 =>
  call Qfv [.agg [a10,a11]] fun o1 =>
  (1=1)∧(1≤16777216)∧(1=1)∧(0=0)∧(1=1)∧(flatCond [.pv (I 0)] [.pv a12])∧call Qfv [.agg [a13,a14]] fun o2 =>
  call Qfz [.one a15] fun o3 =>
  (1=1)∧(1≤16777216)∧(1=1)∧(0=0)∧(1=1)∧(flatCond [.pv (I 0)] [.pv (atP o3 0)])∧(6=6)∧(6≤16777216)∧(1=1)∧(0=0)∧(1=1)∧(flatCond [.nil 3 1] [.own 1])∧(1=1)∧(1=1)∧(flatCond [.nil 3 1] [.own 2])∧(2=2)∧(1=1)∧(flatCond [.nil 3 1] [.own 3])∧(3=3)∧(1=1)∧(flatCond [.nil 3 1] [.own 4])∧(4=4)∧(1=1)∧(flatCond [.nil 3 1] [.own 5])∧(5=5)∧(1=1)∧(flatCond [.nil 3 1] [.own 7])∧call Qgb [.one (.list 1 [[(.list 1 [[a0],[a1],[a2],[a3],[a4],[a5],[a6],[a7]])],[(atP o0 0)],[(atP o1 0)],[(.list 1 [[a12]])],[(atP o2 0)],[(.list 1 [[(atP o3 0)]])]])] fun o4 =>
  rt [.own true 3 1] [(atP o4 0)] k) u0
 | _,_=>False
abbrev Qgc_e:Ent:=⟨[384],Qgc⟩
theorem Qgc_w:EntOK Tryz.prog TT Qgc_e:=okF_ tabok (L:=[Qfv_e,Qfz_e,Qgb_e]) ⟨Qfv_w,Qfz_w,Qgb_w,trivial⟩ (keep:=[]) (l:=[]) Tryz.func384 trivial fun av k h=>by
 unfold Qgc at h;split at h
 ·apply un_all h;clear h;intro a0 a1 a2 a3 a4 a5 a6 a7 a8 a9 a10 a11 a12 a13 a14 a15 h;exact km h
 ·exact h.elim
def Qgd:GM
 | [.one a0,.one a1],k =>
  (1=1)∧(1≤16777216)∧(1=1)∧(0=0)∧(1=1)∧(flatCond [.pv (I 0)] [.pv a0])∧(1=1)∧(1≤16777216)∧(1=1)∧(0=0)∧(1=1)∧(flatCond [.pv (I 0)] [.pv a0])∧(3=3)∧(3≤16777216)∧(1=1)∧(0=0)∧(1=1)∧(flatCond [.nil 3 1] [.own 0])∧(1=1)∧(1=1)∧(2=2)∧(1=1)∧(flatCond [.nil 3 1] [.own 1])∧call Qgb [.one (.list 1 [[(.list 1 [[a0]])],[a1],[(.list 1 [[a0]])]])] fun o0 =>
  call Qfx [.one (atP o0 0)] fun o1 =>
  rt [.sc] [(atP o1 0)] k
 | _,_=>False
abbrev Qgd_e:Ent:=⟨[427],Qgd⟩
theorem Qgd_w:EntOK Tryz.prog TT Qgd_e:=okF_ tabok (L:=[Qgb_e,Qfx_e]) ⟨Qgb_w,Qfx_w,trivial⟩ (keep:=[]) (l:=[]) Tryz.func427 trivial fun av k h=>by
 unfold Qgd at h;split at h
 ·exact km h
 ·exact h.elim
def Qge:GM
 | [.one a0,.one a1],k =>
  (1=1)∧(1≤16777216)∧(1=1)∧(0=0)∧(1=1)∧(flatCond [.pv (I 0)] [.pv (I 223)])∧(flatRows a1)∧catP 1 (.list 1 [[(I 223)]]) a1 fun r0 =>
  call Qgd [.one a0,.one r0] fun o1 =>
  rt [.sc] [(atP o1 0)] k
 | _,_=>False
abbrev Qge_e:Ent:=⟨[416],Qge⟩
theorem Qge_w:EntOK Tryz.prog TT Qge_e:=okF_ tabok (L:=[Qgd_e]) ⟨Qgd_w,trivial⟩ (keep:=[]) (l:=[]) Tryz.func416 trivial fun av k h=>by
 unfold Qge at h;split at h
 ·exact km h
 ·exact h.elim
def Qgf:GM
 | [.agg u0,.one a2],k=>un 2 (fun a0 a1 =>
  call Qfp [.one a0] fun o0 =>
  iteP (atP o0 0)
   (call Qge [.one a0,.one a2] fun o1 =>
   binP .eql a1 (atP o1 0) fun r2 =>
   rt [.sc] [r2] k)
   (rt [.sc] [(.bool false)] k)) u0
 | _,_=>False
abbrev Qgf_e:Ent:=⟨[434],Qgf⟩
theorem Qgf_w:EntOK Tryz.prog TT Qgf_e:=okF_ tabok (L:=[Qfp_e,Qge_e]) ⟨Qfp_w,Qge_w,trivial⟩ (keep:=[]) (l:=[]) Tryz.func434 trivial fun av k h=>by
 unfold Qgf at h;split at h
 ·apply un_all h;clear h;intro a0 a1 h;exact km h
 ·exact h.elim
def Qgg:GM
 | [.agg u0,.ro (.cells u1),.ro (.cells u2)],k=>un 2 (fun a0 a1=>un 1 (fun a2=>un 1 (fun a3 =>
  binP .eql a0 a2 fun r0 =>
  iteP r0
   (call Qgf [.agg [a0,a1],.one a3] fun o1 =>
   rt [.sc] [(atP o1 0)] k)
   (rt [.sc] [(.bool false)] k)) u2) u1) u0
 | _,_=>False
abbrev Qgg_e:Ent:=⟨[433],Qgg⟩
theorem Qgg_w:EntOK Tryz.prog TT Qgg_e:=okF_ tabok (L:=[Qgf_e]) ⟨Qgf_w,trivial⟩ (keep:=[]) (l:=[]) Tryz.func433 trivial fun av k h=>by
 unfold Qgg at h;split at h
 ·apply un_all h;clear h;intro a0 a1 h;apply un_all h;clear h;intro a2 h;apply un_all h;clear h;intro a3 h;exact km h
 ·exact h.elim
def Qgh_r0 (v:List PV) (K:List PV→Prop) (x0k:PV→Prop) (x1k:PV→PV→PV→PV→PV→PV→Prop):Prop :=
 un 6 (fun v0 v1 v2 v3 v4 v5 =>
  binP .lss v5 v4 fun r0 =>
  iteP r0
   (elemP 2 v0 v5 fun c1 =>
   call Qgg [.agg [(atP c1 0),(atP c1 1)],.ro (.cells [v1]),.ro (.cells [v2])] fun o2 =>
   iteP (atP o2 0)
    (x0k v5)
    (binP .add v5 (I 1) fun r3 =>
    K [v0,v1,v2,v3,v4,r3]))
   (x1k v0 v1 v2 v3 v4 v5)) v
def Qgh:GM
 | [.one a0,.fn 433 [.cells u0,.cells u1]],k=>un 1 (fun a1=>un 1 (fun a2 =>
  lenP a0 fun r0 =>
  lp (fun L w=>Qgh_r0 w L
   (fun q4=>rt [.sc] [q4] k)
   (fun q5 q6 q7 q8 q9 q10=>rt [.sc] [(I (-1))] k)) [a0,a1,a2,(I 0),r0,(I 0)]) u1) u0
 | _,_=>False
abbrev Qgh_e:Ent:=⟨[435,433],Qgh⟩
def Qgh_l:List LE:=[⟨none,0,⟨[(0,.one zB),(1,.one (.fn 433 [.ro (.cells [(.bool false)]),.ro (.cells [(.bool false)])])),(4,.one zB),(7,.one zB),(8,.one zB)],[],[],0,19,[]⟩,fun K k v=>Qgh_r0 v K (fun x0=>k .ret ⟨[(4,.one (.pv x0))],[],[],1,19,[]⟩) (fun x0 x1 x2 x3 x4 x5=>k (.exit 0) ⟨[(0,.one (.pv x0)),(1,.one (.fn 433 [.ro (.cells [x1]),.ro (.cells [x2])])),(4,.one (.pv x3)),(7,.one (.pv x4)),(8,.one (.pv x5))],[],[],0,19,[]⟩)⟩]
theorem Qgh_s:LEsOK [Qgg_e] TT (kk [0,1,4,7,8]) Qgh_l Tryz.f435 Qgh_l:=⟨fun v K k h=>by
 apply un_all h;exact fun v0 v1 v2 v3 v4 v5 h=>km h
 ,trivial⟩
theorem Qgh_w:EntOK Tryz.prog TT Qgh_e:=ok_ tabok (L:=[Qgg_e]) ⟨Qgg_w,trivial⟩ (keep:=(kk [0,1,4,7,8])) (l:=Qgh_l) Tryz.func435 Qgh_s fun av k h=>by
 unfold Qgh at h;split at h
 ·apply un_all h;clear h;intro a1 h;apply un_all h;clear h;intro a2 h;exact km h
 ·exact h.elim
def Qgi:GM
 | [.one a0,.fn 433 [.cells u0,.cells u1]],k=>un 1 (fun a1=>un 1 (fun a2 =>
  call Qgh [.one a0,.fn 433 [.cells [a1],.cells [a2]]] fun o0 =>
  binP .geq (atP o0 0) (I 0) fun r1 =>
  rt [.sc] [r1] k) u1) u0
 | _,_=>False
abbrev Qgi_e:Ent:=⟨[432,433],Qgi⟩
theorem Qgi_w:EntOK Tryz.prog TT Qgi_e:=ok_ tabok (L:=[Qgh_e]) ⟨Qgh_w,trivial⟩ (keep:=[]) (l:=[]) Tryz.func432 trivial fun av k h=>by
 unfold Qgi at h;split at h
 ·apply un_all h;clear h;intro a1 h;apply un_all h;clear h;intro a2 h;exact km h
 ·exact h.elim
def Qgj_r0 (v:List PV) (K:List PV→Prop) (x0k:PV→PV→PV→PV→PV→PV→PV→Prop):Prop :=
 un 7 (fun v0 v1 v2 v3 v4 v5 v6 =>
  binP .lss v5 v4 fun r0 =>
  iteP r0
   (elemP 1 v3 v5 fun c1 =>
   call Qgi [.one v0,.fn 433 [.cells [(atP c1 0)],.cells [v6]]] fun o2 =>
   iteP (atP o2 0)
    (binP .add v2 (I 1) fun r3 =>
    binP .add v5 (I 1) fun r4 =>
    K [v0,v1,r3,v3,v4,r4,v6])
    (binP .add v5 (I 1) fun r5 =>
    K [v0,v1,v2,v3,v4,r5,v6]))
   (x0k v0 v1 v2 v3 v4 v5 v6)) v
def Qgj:GM
 | [.agg u0,.one a2,.one a3],k=>un 2 (fun a0 a1 =>
  lenP a0 fun r0 =>
  lp (fun L w=>Qgj_r0 w L
   (fun q6 q7 q8 q9 q10 q11 q12=>rt [.sc] [q8] k)) [a3,(I 0),(I 0),a0,r0,(I 0),a2]) u0
 | _,_=>False
abbrev Qgj_e:Ent:=⟨[430],Qgj⟩
def Qgj_l:List LE:=[⟨none,0,⟨[(2,.one zB),(4,.one (.ptr 1 0)),(6,.one zB),(7,.one zB),(11,.one zB),(12,.one zB),(13,.one zB)],[(1,[zB])],[],2,24,[]⟩,fun K k v=>Qgj_r0 v K (fun x0 x1 x2 x3 x4 x5 x6=>k (.exit 0) ⟨[(2,.one (.pv x0)),(4,.one (.ptr 1 0)),(6,.one (.pv x1)),(7,.one (.pv x2)),(11,.one (.pv x3)),(12,.one (.pv x4)),(13,.one (.pv x5))],[(1,[.pv x6])],[],2,24,[]⟩)⟩]
theorem Qgj_s:LEsOK [Qgi_e] TT.nofl (kk [2,4,6,7,11,12,13]) Qgj_l Tryz.f430 Qgj_l:=⟨fun v K k h=>by
 apply un_all h;exact fun v0 v1 v2 v3 v4 v5 v6 h=>km h
 ,trivial⟩
theorem Qgj_w:EntOK Tryz.prog TT Qgj_e:=okF_ tabok (L:=[Qgi_e]) ⟨Qgi_w,trivial⟩ (keep:=(kk [2,4,6,7,11,12,13])) (l:=Qgj_l) Tryz.func430 Qgj_s fun av k h=>by
 unfold Qgj at h;split at h
 ·apply un_all h;clear h;intro a0 a1 h;exact km h
 ·exact h.elim
def Qgk:GM
 | [.agg u0,.one a2,.one a3],k=>un 2 (fun a0 a1 =>
  call Qfq [.agg [a0,a1]] fun o0 =>
  iteP (atP o0 0)
   (call Qgj [.agg [a0,a1],.one a2,.one a3] fun o1 =>
   binP .geq (atP o1 0) a1 fun r2 =>
   rt [.sc] [r2] k)
   (rt [.sc] [(.bool false)] k)) u0
 | _,_=>False
abbrev Qgk_e:Ent:=⟨[425],Qgk⟩
theorem Qgk_w:EntOK Tryz.prog TT Qgk_e:=okF_ tabok (L:=[Qfq_e,Qgj_e]) ⟨Qfq_w,Qgj_w,trivial⟩ (keep:=[]) (l:=[]) Tryz.func425 trivial fun av k h=>by
 unfold Qgk at h;split at h
 ·apply un_all h;clear h;intro a0 a1 h;exact km h
 ·exact h.elim
def Qgl:GM
 | [.agg u0,.agg u1],k=>un 17 (fun a0 a1 a2 a3 a4 a5 a6 a7 a8 a9 a10 a11 a12 a13 a14 a15 a16=>un 2 (fun a17 a18 =>
  call Qgc [.agg [a0,a1,a2,a3,a4,a5,a6,a7,a8,a9,a10,a11,a12,a13,a14,a15]] fun o0 =>
  call Qgk [.agg [a17,a18],.one (atP o0 0),.one a16] fun o1 =>
  rt [.sc] [(atP o1 0)] k) u1) u0
 | _,_=>False
abbrev Qgl_e:Ent:=⟨[403],Qgl⟩
theorem Qgl_w:EntOK Tryz.prog TT Qgl_e:=okF_ tabok (L:=[Qgc_e,Qgk_e]) ⟨Qgc_w,Qgk_w,trivial⟩ (keep:=[]) (l:=[]) Tryz.func403 trivial fun av k h=>by
 unfold Qgl at h;split at h
 ·apply un_all h;clear h;intro a0 a1 a2 a3 a4 a5 a6 a7 a8 a9 a10 a11 a12 a13 a14 a15 a16 h;apply un_all h;clear h;intro a17 a18 h;exact km h
 ·exact h.elim
def Qgm:GM
 | [.agg u0],k=>un 17 (fun a0 a1 a2 a3 a4 a5 a6 a7 a8 a9 a10 a11 a12 a13 a14 a15 a16 =>
  call Qfu [.agg [a0,a1,a2,a3,a4,a5,a6,a7,a8,a9,a10,a11,a12,a13,a14,a15]] fun o0 =>
  iteP (atP o0 0)
   (binP .eql a1 (I 0) fun r1 =>
   iteP r1
    (binP .eql a2 (I 1) fun r2 =>
    iteP r2
     (unP .not a15 fun r3 =>
     iteP r3
      (call Qfy [.agg [a8,a9],.one a7] fun o4 =>
      binP .eql a0 (atP o4 0) fun r5 =>
      iteP r5
       (call Qgl [.agg [a0,a1,a2,a3,a4,a5,a6,a7,a8,a9,a10,a11,a12,a13,a14,a15,a16],.agg [a8,a9]] fun o6 =>
       rt [.sc] [(atP o6 0)] k)
       (rt [.sc] [(.bool false)] k))
      (rt [.sc] [(.bool false)] k))
     (rt [.sc] [(.bool false)] k))
    (rt [.sc] [(.bool false)] k))
   (rt [.sc] [(.bool false)] k)) u0
 | _,_=>False
abbrev Qgm_e:Ent:=⟨[363],Qgm⟩
theorem Qgm_w:EntOK Tryz.prog TT Qgm_e:=okF_ tabok (L:=[Qfu_e,Qfy_e,Qgl_e]) ⟨Qfu_w,Qfy_w,Qgl_w,trivial⟩ (keep:=[]) (l:=[]) Tryz.func363 trivial fun av k h=>by
 unfold Qgm at h;split at h
 ·apply un_all h;clear h;intro a0 a1 a2 a3 a4 a5 a6 a7 a8 a9 a10 a11 a12 a13 a14 a15 a16 h;exact km h
 ·exact h.elim
def Qgn:GM
 | [.agg u0],k=>un 16 (fun a0 a1 a2 a3 a4 a5 a6 a7 a8 a9 a10 a11 a12 a13 a14 a15 =>
  (1=1)∧(1≤16777216)∧(1=1)∧(0=0)∧(1=1)∧(flatCond [.pv (I 0)] [.pv (I 233)])∧call Qgc [.agg [a0,a1,a2,a3,a4,a5,a6,a7,a8,a9,a10,a11,a12,a13,a14,a15]] fun o0 =>
  catP 1 (.list 1 [[(I 233)]]) (atP o0 0) fun r1 =>
  call Qfx [.one r1] fun o2 =>
  rt [.sc] [(atP o2 0)] k) u0
 | _,_=>False
abbrev Qgn_e:Ent:=⟨[413],Qgn⟩
theorem Qgn_w:EntOK Tryz.prog TT Qgn_e:=okF_ tabok (L:=[Qgc_e,Qfx_e]) ⟨Qgc_w,Qfx_w,trivial⟩ (keep:=[]) (l:=[]) Tryz.func413 trivial fun av k h=>by
 unfold Qgn at h;split at h
 ·apply un_all h;clear h;intro a0 a1 a2 a3 a4 a5 a6 a7 a8 a9 a10 a11 a12 a13 a14 a15 h;exact km h
 ·exact h.elim
def Qgo:GM
 | [.agg u0,.agg u1],k=>un 16 (fun a0 a1 a2 a3 a4 a5 a6 a7 a8 a9 a10 a11 a12 a13 a14 a15=>un 16 (fun a16 a17 a18 a19 a20 a21 a22 a23 a24 a25 a26 a27 a28 a29 a30 a31 =>
  binP .eql a16 a0 fun r0 =>
  iteP r0
   (binP .add a1 (I 1) fun r1 =>
   binP .eql a17 r1 fun r2 =>
   iteP r2
    (call Qgn [.agg [a0,a1,a2,a3,a4,a5,a6,a7,a8,a9,a10,a11,a12,a13,a14,a15]] fun o3 =>
    binP .eql a23 (atP o3 0) fun r4 =>
    iteP r4
     (binP .geq a19 a3 fun r5 =>
     rt [.sc] [r5] k)
     (rt [.sc] [(.bool false)] k))
    (rt [.sc] [(.bool false)] k))
   (rt [.sc] [(.bool false)] k)) u1) u0
 | _,_=>False
abbrev Qgo_e:Ent:=⟨[379],Qgo⟩
theorem Qgo_w:EntOK Tryz.prog TT Qgo_e:=okF_ tabok (L:=[Qgn_e]) ⟨Qgn_w,trivial⟩ (keep:=[]) (l:=[]) Tryz.func379 trivial fun av k h=>by
 unfold Qgo at h;split at h
 ·apply un_all h;clear h;intro a0 a1 a2 a3 a4 a5 a6 a7 a8 a9 a10 a11 a12 a13 a14 a15 h;apply un_all h;clear h;intro a16 a17 a18 a19 a20 a21 a22 a23 a24 a25 a26 a27 a28 a29 a30 a31 h;exact km h
 ·exact h.elim
def Qgp:GM
 | [.agg u0,.agg u1],k=>un 16 (fun a0 a1 a2 a3 a4 a5 a6 a7 a8 a9 a10 a11 a12 a13 a14 a15=>un 17 (fun a16 a17 a18 a19 a20 a21 a22 a23 a24 a25 a26 a27 a28 a29 a30 a31 a32 =>
  iteP a15
   (rt [.sc] [(I 4)] k)
   (iteP a31
    (rt [.sc] [(I 6)] k)
    (call Qgl [.agg [a16,a17,a18,a19,a20,a21,a22,a23,a24,a25,a26,a27,a28,a29,a30,a31,a32],.agg [a8,a9]] fun o0 =>
    unP .not (atP o0 0) fun r1 =>
    iteP r1
     (rt [.sc] [(I 7)] k)
     (rt [.sc] [(I 1)] k)))) u1) u0
 | _,_=>False
abbrev Qgp_e:Ent:=⟨[380],Qgp⟩
theorem Qgp_w:EntOK Tryz.prog TT Qgp_e:=okF_ tabok (L:=[Qgl_e]) ⟨Qgl_w,trivial⟩ (keep:=[]) (l:=[]) Tryz.func380 trivial fun av k h=>by
 unfold Qgp at h;split at h
 ·apply un_all h;clear h;intro a0 a1 a2 a3 a4 a5 a6 a7 a8 a9 a10 a11 a12 a13 a14 a15 h;apply un_all h;clear h;intro a16 a17 a18 a19 a20 a21 a22 a23 a24 a25 a26 a27 a28 a29 a30 a31 a32 h;exact km h
 ·exact h.elim
def Qgq_r0 (v:List PV) (K:List PV→Prop) (x0k:Prop) (x1k:PV→PV→PV→PV→PV→Prop):Prop :=
 un 5 (fun v0 v1 v2 v3 v4 =>
  binP .lss v4 v3 fun r0 =>
  iteP r0
   (elemP 1 v0 v4 fun c1 =>
   elemP 1 v1 v4 fun c2 =>
   binP .neq (atP c1 0) (atP c2 0) fun r3 =>
   iteP r3
    (x0k)
    (binP .add v4 (I 1) fun r4 =>
    K [v0,v1,v2,v3,r4]))
   (x1k v0 v1 v2 v3 v4)) v
def Qgq:GM
 | [.one a0,.one a1],k =>
  lenP a0 fun r0 =>
  lenP a1 fun r1 =>
  binP .neq r0 r1 fun r2 =>
  iteP r2
   (rt [.sc] [(.bool false)] k)
   (lenP a0 fun r3 =>
   lp (fun L w=>Qgq_r0 w L
    (rt [.sc] [(.bool false)] k)
    (fun q5 q6 q7 q8 q9=>rt [.sc] [(.bool true)] k)) [a0,a1,(.bool false),r3,(I 0)])
 | _,_=>False
abbrev Qgq_e:Ent:=⟨[420],Qgq⟩
def Qgq_l:List LE:=[⟨none,0,⟨[(0,.one zB),(1,.one zB),(4,.one zB),(12,.one zB),(13,.one zB)],[],[],0,26,[]⟩,fun K k v=>Qgq_r0 v K (k .ret ⟨[(4,.one (.kb false))],[],[],0,26,[]⟩) (fun x0 x1 x2 x3 x4=>k (.exit 0) ⟨[(0,.one (.pv x0)),(1,.one (.pv x1)),(4,.one (.pv x2)),(12,.one (.pv x3)),(13,.one (.pv x4))],[],[],0,26,[]⟩)⟩]
theorem Qgq_s:LEsOK [] TT (kk [0,1,4,12,13]) Qgq_l Tryz.f420 Qgq_l:=⟨fun v K k h=>by
 apply un_all h;exact fun v0 v1 v2 v3 v4 h=>km h
 ,trivial⟩
theorem Qgq_w:EntOK Tryz.prog TT Qgq_e:=ok_ tabok (L:=[]) trivial (keep:=(kk [0,1,4,12,13])) (l:=Qgq_l) Tryz.func420 Qgq_s fun av k h=>by
 unfold Qgq at h;split at h
 ·exact km h
 ·exact h.elim
def Qgr:GM
 | [.agg u0,.agg u1],k=>un 2 (fun a0 a1=>un 2 (fun a2 a3 =>
  call Qgq [.one a0,.one a2] fun o0 =>
  iteP (atP o0 0)
   (binP .eql a1 a3 fun r1 =>
   rt [.sc] [r1] k)
   (rt [.sc] [(.bool false)] k)) u1) u0
 | _,_=>False
abbrev Qgr_e:Ent:=⟨[414],Qgr⟩
theorem Qgr_w:EntOK Tryz.prog TT Qgr_e:=okF_ tabok (L:=[Qgq_e]) ⟨Qgq_w,trivial⟩ (keep:=[]) (l:=[]) Tryz.func414 trivial fun av k h=>by
 unfold Qgr at h;split at h
 ·apply un_all h;clear h;intro a0 a1 h;apply un_all h;clear h;intro a2 a3 h;exact km h
 ·exact h.elim
end Go.Ev
