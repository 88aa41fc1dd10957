/- The tables of this load, and for each function the meaning that the evaluator gives it, with its proof, part 5. -/
import Derived.Test.YtmhmcamcenidaaaGreatFn4
set_option maxRecDepth 100000
set_option linter.unusedVariables false
namespace Go.Ev
open Go.Proofs
def Qki_r0 (v:List PV) (K:List PV→Prop) (x0k:PV→PV→PV→PV→PV→PV→PV→PV→PV→PV→PV→PV→PV→PV→PV→PV→PV→PV→PV→PV→PV→PV→PV→PV→PV→PV→PV→PV→PV→PV→PV→PV→PV→PV→PV→PV→Prop):Prop :=
 un 36 (fun v0 v1 v2 v3 v4 v5 v6 v7 v8 v9 v10 v11 v12 v13 v14 v15 v16 v17 v18 v19 v20 v21 v22 v23 v24 v25 v26 v27 v28 v29 v30 v31 v32 v33 v34 v35 =>
  binP .eql v2 (I 0) fun r0 =>
  iteP r0
   (elemP 1 v0 (I 0) fun c1 =>
   ((call Qkf [.agg [v35],.one v1,.one (atP c1 0)] fun o2 =>
   call Qkg [.one v18,.one v1,.one (atP c1 0)] fun o3 =>
   (((1=1)∧(21≤16777216)∧(21=21)∧(0=0)∧(21=21)∧(flatCond [.nil 257 17,zB,.pv (.str ⟨#[]⟩),.pv (I 0),.pv (I 0),.nil 9 1,.pv (I 0),.nil 3 1,.pv (I 0),.pv (.str ⟨#[]⟩),.pv (I 0),.pv (I 0),.nil 9 1,.pv (.str ⟨#[]⟩),.pv (I 0),.pv (I 0),.nil 9 1,.pv (I 0),.nil 3 1,.pv (I 0),.nil 3 1] [.own 27,.pv (atP o2 1),.pv (atP o2 2),.pv (atP o2 3),.pv (atP o2 4),.own 32,.pv (atP o2 6),.own 34,.pv (atP o2 8),.pv (atP o2 9),.pv (atP o2 10),.pv (atP o2 11),.own 39,.pv (atP o2 13),.pv (atP o2 14),.pv (atP o2 15),.own 43,.pv (atP o2 17),.own 45,.pv (atP o2 19),.own 47])∧(catP 21 (.list 21 [[(atP o2 0),(atP o2 1),(atP o2 2),(atP o2 3),(atP o2 4),(atP o2 5),(atP o2 6),(atP o2 7),(atP o2 8),(atP o2 9),(atP o2 10),(atP o2 11),(atP o2 12),(atP o2 13),(atP o2 14),(atP o2 15),(atP o2 16),(atP o2 17),(atP o2 18),(atP o2 19),(atP o2 20)]]) (atP o3 0) fun r4 =>
   (call Qjq [.agg [v33,v34],.one r4,.one v1,.one (atP c1 0),.one v17] fun o5 =>
   binP .geq (atP o5 9) (I 0) fun r6 =>
   iteP r6
    (boundP 21 r4 (atP o5 9) fun n7 =>
    rowP 21 r4 n7 fun c8 =>
    call Qkh [.agg [v35],.one v1,.one (atP c1 0),.agg [(atP c8 0),(atP c8 1),(atP c8 2),(atP c8 3),(atP c8 4),(atP c8 5),(atP c8 6),(atP c8 7),(atP c8 8),(atP c8 9),(atP c8 10),(atP c8 11),(atP c8 12),(atP c8 13),(atP c8 14),(atP c8 15),(atP c8 16),(atP c8 17),(atP c8 18),(atP c8 19),(atP c8 20)],.one v17] fun o9 =>
    ((1=1)∧(1≤16777216)∧(1=1)∧(0=0)∧(1=1)∧(flatCond [.pv (I 0)] [.pv v1])∧catP 1 v31 (.list 1 [[v1]]) fun r10 =>
    natP (I 1) fun n11 =>
    cutP 1 v0 (some n11) none fun r12 =>
    (((unP .not (atP o5 7) fun r13 =>
    iteP r13
     (K [(.list 1 []),(I 0),(I 3),v3,v4,v5,v6,v7,v8,v9,v10,v11,v12,v13,v14,v15,v16,v17,v18,v19,v20,v21,v22,v23,v24,v25,v26,v27,v28,v29,v30,r10,v32,(atP o5 0),(atP o5 1),(atP o9 0)])
     (unP .not (atP o5 2) fun r14 =>
     iteP r14
      (K [(.list 1 []),(I 0),(I 2),v3,v4,v5,v6,v7,v8,v9,v10,v11,v12,v13,v14,v15,v16,v17,v18,v19,v20,v21,v22,v23,v24,v25,v26,v27,v28,v29,v30,r10,v32,(atP o5 0),(atP o5 1),(atP o9 0)])
      (binP .eql (atP o5 4) (I 3) fun r15 =>
      iteP r15
       (call Qdm [.one (atP o5 6)] fun o16 =>
       (flatRows r12)∧catP 1 (atP o16 0) r12 fun r17 =>
       binP .geq v6 (I 3) fun r18 =>
       iteP r18
        (K [(.list 1 []),(I 0),(I 5),v3,v4,v5,v6,v7,v8,v9,v10,v11,v12,v13,v14,v15,v16,v17,v18,v19,v20,v21,v22,v23,v24,v25,v26,v27,v28,v29,v30,r10,v32,(atP o5 0),(atP o5 1),(atP o9 0)])
        (call Qfo [.one r17] fun o19 =>
        unP .not (atP o19 0) fun r20 =>
        iteP r20
         (K [(.list 1 []),(I 0),(I 5),v3,v4,v5,v6,v7,v8,v9,v10,v11,v12,v13,v14,v15,v16,v17,v18,v19,v20,v21,v22,v23,v24,v25,v26,v27,v28,v29,v30,r10,v32,(atP o5 0),(atP o5 1),(atP o9 0)])
         (binP .add v6 (I 1) fun r21 =>
         K [r17,(atP o5 5),v2,v3,v4,v5,r21,v7,v8,v9,v10,v11,v12,v13,v14,v15,v16,v17,v18,v19,v20,v21,v22,v23,v24,v25,v26,v27,v28,v29,v30,r10,v32,(atP o5 0),(atP o5 1),(atP o9 0)])))
       (lenP r12 fun r22 =>
       binP .eql r22 (I 0) fun r23 =>
       iteP r23
        (call Qdn [.agg [(atP o5 3),(atP o5 4),(atP o5 5),(atP o5 6)]] fun o24 =>
        K [(.list 1 []),(I 0),(I 1),(atP o24 0),(atP o24 1),(atP o24 2),v6,v7,v8,v9,v10,v11,v12,v13,v14,v15,v16,v17,v18,v19,v20,v21,v22,v23,v24,v25,v26,v27,v28,v29,v30,r10,(atP o24 3),(atP o5 0),(atP o5 1),(atP o9 0)])
        (binP .eql (atP o5 4) (I 2) fun r25 =>
        iteP r25
         (K [r12,(atP o5 5),v2,v3,v4,v5,v6,v7,v8,v9,v10,v11,v12,v13,v14,v15,v16,v17,v18,v19,v20,v21,v22,v23,v24,v25,v26,v27,v28,v29,v30,r10,v32,(atP o5 0),(atP o5 1),(atP o9 0)])
         (K [(.list 1 []),(I 0),(I 4),v3,v4,v5,v6,v7,v8,v9,v10,v11,v12,v13,v14,v15,v16,v17,v18,v19,v20,v21,v22,v23,v24,v25,v26,v27,v28,v29,v30,r10,v32,(atP o5 0),(atP o5 1),(atP o9 0)]))))))∧True)∧True)∧((natP (I 1) fun n26 =>
    cutP 1 v0 (some n26) none fun r27 =>
    (unP .not (atP o5 7) fun r28 =>
    iteP r28
     (K [(.list 1 []),(I 0),(I 3),v3,v4,v5,v6,v7,v8,v9,v10,v11,v12,v13,v14,v15,v16,v17,v18,v19,v20,v21,v22,v23,v24,v25,v26,v27,v28,v29,v30,r10,v32,(atP o5 0),(atP o5 1),(atP o9 0)])
     (unP .not (atP o5 2) fun r29 =>
     iteP r29
      (K [(.list 1 []),(I 0),(I 2),v3,v4,v5,v6,v7,v8,v9,v10,v11,v12,v13,v14,v15,v16,v17,v18,v19,v20,v21,v22,v23,v24,v25,v26,v27,v28,v29,v30,r10,v32,(atP o5 0),(atP o5 1),(atP o9 0)])
      (binP .eql (atP o5 4) (I 3) fun r30 =>
      iteP r30
       (call Qdm [.one (atP o5 6)] fun o31 =>
       (flatRows r27)∧catP 1 (atP o31 0) r27 fun r32 =>
       binP .geq v6 (I 3) fun r33 =>
       iteP r33
        (K [(.list 1 []),(I 0),(I 5),v3,v4,v5,v6,v7,v8,v9,v10,v11,v12,v13,v14,v15,v16,v17,v18,v19,v20,v21,v22,v23,v24,v25,v26,v27,v28,v29,v30,r10,v32,(atP o5 0),(atP o5 1),(atP o9 0)])
        (call Qfo [.one r32] fun o34 =>
        unP .not (atP o34 0) fun r35 =>
        iteP r35
         (K [(.list 1 []),(I 0),(I 5),v3,v4,v5,v6,v7,v8,v9,v10,v11,v12,v13,v14,v15,v16,v17,v18,v19,v20,v21,v22,v23,v24,v25,v26,v27,v28,v29,v30,r10,v32,(atP o5 0),(atP o5 1),(atP o9 0)])
         (binP .add v6 (I 1) fun r36 =>
         K [r32,(atP o5 5),v2,v3,v4,v5,r36,v7,v8,v9,v10,v11,v12,v13,v14,v15,v16,v17,v18,v19,v20,v21,v22,v23,v24,v25,v26,v27,v28,v29,v30,r10,v32,(atP o5 0),(atP o5 1),(atP o9 0)])))
       (lenP r27 fun r37 =>
       binP .eql r37 (I 0) fun r38 =>
       iteP r38
        (call Qdn [.agg [(atP o5 3),(atP o5 4),(atP o5 5),(atP o5 6)]] fun o39 =>
        K [(.list 1 []),(I 0),(I 1),(atP o39 0),(atP o39 1),(atP o39 2),v6,v7,v8,v9,v10,v11,v12,v13,v14,v15,v16,v17,v18,v19,v20,v21,v22,v23,v24,v25,v26,v27,v28,v29,v30,r10,(atP o39 3),(atP o5 0),(atP o5 1),(atP o9 0)])
        (binP .eql (atP o5 4) (I 2) fun r40 =>
        iteP r40
         (K [r27,(atP o5 5),v2,v3,v4,v5,v6,v7,v8,v9,v10,v11,v12,v13,v14,v15,v16,v17,v18,v19,v20,v21,v22,v23,v24,v25,v26,v27,v28,v29,v30,r10,v32,(atP o5 0),(atP o5 1),(atP o9 0)])
         (K [(.list 1 []),(I 0),(I 4),v3,v4,v5,v6,v7,v8,v9,v10,v11,v12,v13,v14,v15,v16,v17,v18,v19,v20,v21,v22,v23,v24,v25,v26,v27,v28,v29,v30,r10,v32,(atP o5 0),(atP o5 1),(atP o9 0)]))))))∧True)∧True)∧True)∧True)
    (((1=1)∧(1≤16777216)∧(1=1)∧(0=0)∧(1=1)∧(flatCond [.pv (I 0)] [.pv v1])∧catP 1 v31 (.list 1 [[v1]]) fun r41 =>
    natP (I 1) fun n42 =>
    cutP 1 v0 (some n42) none fun r43 =>
    (((unP .not (atP o5 7) fun r44 =>
    iteP r44
     (K [(.list 1 []),(I 0),(I 3),v3,v4,v5,v6,v7,v8,v9,v10,v11,v12,v13,v14,v15,v16,v17,v18,v19,v20,v21,v22,v23,v24,v25,v26,v27,v28,v29,v30,r41,v32,(atP o5 0),(atP o5 1),v35])
     (unP .not (atP o5 2) fun r45 =>
     iteP r45
      (K [(.list 1 []),(I 0),(I 2),v3,v4,v5,v6,v7,v8,v9,v10,v11,v12,v13,v14,v15,v16,v17,v18,v19,v20,v21,v22,v23,v24,v25,v26,v27,v28,v29,v30,r41,v32,(atP o5 0),(atP o5 1),v35])
      (binP .eql (atP o5 4) (I 3) fun r46 =>
      iteP r46
       (call Qdm [.one (atP o5 6)] fun o47 =>
       (flatRows r43)∧catP 1 (atP o47 0) r43 fun r48 =>
       binP .geq v6 (I 3) fun r49 =>
       iteP r49
        (K [(.list 1 []),(I 0),(I 5),v3,v4,v5,v6,v7,v8,v9,v10,v11,v12,v13,v14,v15,v16,v17,v18,v19,v20,v21,v22,v23,v24,v25,v26,v27,v28,v29,v30,r41,v32,(atP o5 0),(atP o5 1),v35])
        (call Qfo [.one r48] fun o50 =>
        unP .not (atP o50 0) fun r51 =>
        iteP r51
         (K [(.list 1 []),(I 0),(I 5),v3,v4,v5,v6,v7,v8,v9,v10,v11,v12,v13,v14,v15,v16,v17,v18,v19,v20,v21,v22,v23,v24,v25,v26,v27,v28,v29,v30,r41,v32,(atP o5 0),(atP o5 1),v35])
         (binP .add v6 (I 1) fun r52 =>
         K [r48,(atP o5 5),v2,v3,v4,v5,r52,v7,v8,v9,v10,v11,v12,v13,v14,v15,v16,v17,v18,v19,v20,v21,v22,v23,v24,v25,v26,v27,v28,v29,v30,r41,v32,(atP o5 0),(atP o5 1),v35])))
       (lenP r43 fun r53 =>
       binP .eql r53 (I 0) fun r54 =>
       iteP r54
        (call Qdn [.agg [(atP o5 3),(atP o5 4),(atP o5 5),(atP o5 6)]] fun o55 =>
        K [(.list 1 []),(I 0),(I 1),(atP o55 0),(atP o55 1),(atP o55 2),v6,v7,v8,v9,v10,v11,v12,v13,v14,v15,v16,v17,v18,v19,v20,v21,v22,v23,v24,v25,v26,v27,v28,v29,v30,r41,(atP o55 3),(atP o5 0),(atP o5 1),v35])
        (binP .eql (atP o5 4) (I 2) fun r56 =>
        iteP r56
         (K [r43,(atP o5 5),v2,v3,v4,v5,v6,v7,v8,v9,v10,v11,v12,v13,v14,v15,v16,v17,v18,v19,v20,v21,v22,v23,v24,v25,v26,v27,v28,v29,v30,r41,v32,(atP o5 0),(atP o5 1),v35])
         (K [(.list 1 []),(I 0),(I 4),v3,v4,v5,v6,v7,v8,v9,v10,v11,v12,v13,v14,v15,v16,v17,v18,v19,v20,v21,v22,v23,v24,v25,v26,v27,v28,v29,v30,r41,v32,(atP o5 0),(atP o5 1),v35]))))))∧True)∧True)∧((natP (I 1) fun n57 =>
    cutP 1 v0 (some n57) none fun r58 =>
    (unP .not (atP o5 7) fun r59 =>
    iteP r59
     (K [(.list 1 []),(I 0),(I 3),v3,v4,v5,v6,v7,v8,v9,v10,v11,v12,v13,v14,v15,v16,v17,v18,v19,v20,v21,v22,v23,v24,v25,v26,v27,v28,v29,v30,r41,v32,(atP o5 0),(atP o5 1),v35])
     (unP .not (atP o5 2) fun r60 =>
     iteP r60
      (K [(.list 1 []),(I 0),(I 2),v3,v4,v5,v6,v7,v8,v9,v10,v11,v12,v13,v14,v15,v16,v17,v18,v19,v20,v21,v22,v23,v24,v25,v26,v27,v28,v29,v30,r41,v32,(atP o5 0),(atP o5 1),v35])
      (binP .eql (atP o5 4) (I 3) fun r61 =>
      iteP r61
       (call Qdm [.one (atP o5 6)] fun o62 =>
       (flatRows r58)∧catP 1 (atP o62 0) r58 fun r63 =>
       binP .geq v6 (I 3) fun r64 =>
       iteP r64
        (K [(.list 1 []),(I 0),(I 5),v3,v4,v5,v6,v7,v8,v9,v10,v11,v12,v13,v14,v15,v16,v17,v18,v19,v20,v21,v22,v23,v24,v25,v26,v27,v28,v29,v30,r41,v32,(atP o5 0),(atP o5 1),v35])
        (call Qfo [.one r63] fun o65 =>
        unP .not (atP o65 0) fun r66 =>
        iteP r66
         (K [(.list 1 []),(I 0),(I 5),v3,v4,v5,v6,v7,v8,v9,v10,v11,v12,v13,v14,v15,v16,v17,v18,v19,v20,v21,v22,v23,v24,v25,v26,v27,v28,v29,v30,r41,v32,(atP o5 0),(atP o5 1),v35])
         (binP .add v6 (I 1) fun r67 =>
         K [r63,(atP o5 5),v2,v3,v4,v5,r67,v7,v8,v9,v10,v11,v12,v13,v14,v15,v16,v17,v18,v19,v20,v21,v22,v23,v24,v25,v26,v27,v28,v29,v30,r41,v32,(atP o5 0),(atP o5 1),v35])))
       (lenP r58 fun r68 =>
       binP .eql r68 (I 0) fun r69 =>
       iteP r69
        (call Qdn [.agg [(atP o5 3),(atP o5 4),(atP o5 5),(atP o5 6)]] fun o70 =>
        K [(.list 1 []),(I 0),(I 1),(atP o70 0),(atP o70 1),(atP o70 2),v6,v7,v8,v9,v10,v11,v12,v13,v14,v15,v16,v17,v18,v19,v20,v21,v22,v23,v24,v25,v26,v27,v28,v29,v30,r41,(atP o70 3),(atP o5 0),(atP o5 1),v35])
        (binP .eql (atP o5 4) (I 2) fun r71 =>
        iteP r71
         (K [r58,(atP o5 5),v2,v3,v4,v5,v6,v7,v8,v9,v10,v11,v12,v13,v14,v15,v16,v17,v18,v19,v20,v21,v22,v23,v24,v25,v26,v27,v28,v29,v30,r41,v32,(atP o5 0),(atP o5 1),v35])
         (K [(.list 1 []),(I 0),(I 4),v3,v4,v5,v6,v7,v8,v9,v10,v11,v12,v13,v14,v15,v16,v17,v18,v19,v20,v21,v22,v23,v24,v25,v26,v27,v28,v29,v30,r41,v32,(atP o5 0),(atP o5 1),v35]))))))∧True)∧True)∧True)∧True))∧True)∧True)∧True)∧((1=1)∧(21≤16777216)∧(21=21)∧(0=0)∧(21=21)∧(flatCond [.nil 257 17,zB,.pv (.str ⟨#[]⟩),.pv (I 0),.pv (I 0),.nil 9 1,.pv (I 0),.nil 3 1,.pv (I 0),.pv (.str ⟨#[]⟩),.pv (I 0),.pv (I 0),.nil 9 1,.pv (.str ⟨#[]⟩),.pv (I 0),.pv (I 0),.nil 9 1,.pv (I 0),.nil 3 1,.pv (I 0),.nil 3 1] [.own 27,.pv (atP o2 1),.pv (atP o2 2),.pv (atP o2 3),.pv (atP o2 4),.own 32,.pv (atP o2 6),.own 34,.pv (atP o2 8),.pv (atP o2 9),.pv (atP o2 10),.pv (atP o2 11),.own 39,.pv (atP o2 13),.pv (atP o2 14),.pv (atP o2 15),.own 43,.pv (atP o2 17),.own 45,.pv (atP o2 19),.own 47])∧(call Qkg [.one v18,.one v1,.one (atP c1 0)] fun o72 =>
   (catP 21 (.list 21 [[(atP o2 0),(atP o2 1),(atP o2 2),(atP o2 3),(atP o2 4),(atP o2 5),(atP o2 6),(atP o2 7),(atP o2 8),(atP o2 9),(atP o2 10),(atP o2 11),(atP o2 12),(atP o2 13),(atP o2 14),(atP o2 15),(atP o2 16),(atP o2 17),(atP o2 18),(atP o2 19),(atP o2 20)]]) (atP o72 0) fun r73 =>
   (call Qjq [.agg [v33,v34],.one r73,.one v1,.one (atP c1 0),.one v17] fun o74 =>
   binP .geq (atP o74 9) (I 0) fun r75 =>
   iteP r75
    (boundP 21 r73 (atP o74 9) fun n76 =>
    rowP 21 r73 n76 fun c77 =>
    call Qkh [.agg [v35],.one v1,.one (atP c1 0),.agg [(atP c77 0),(atP c77 1),(atP c77 2),(atP c77 3),(atP c77 4),(atP c77 5),(atP c77 6),(atP c77 7),(atP c77 8),(atP c77 9),(atP c77 10),(atP c77 11),(atP c77 12),(atP c77 13),(atP c77 14),(atP c77 15),(atP c77 16),(atP c77 17),(atP c77 18),(atP c77 19),(atP c77 20)],.one v17] fun o78 =>
    ((1=1)∧(1≤16777216)∧(1=1)∧(0=0)∧(1=1)∧(flatCond [.pv (I 0)] [.pv v1])∧catP 1 v31 (.list 1 [[v1]]) fun r79 =>
    natP (I 1) fun n80 =>
    cutP 1 v0 (some n80) none fun r81 =>
    (((unP .not (atP o74 7) fun r82 =>
    iteP r82
     (K [(.list 1 []),(I 0),(I 3),v3,v4,v5,v6,v7,v8,v9,v10,v11,v12,v13,v14,v15,v16,v17,v18,v19,v20,v21,v22,v23,v24,v25,v26,v27,v28,v29,v30,r79,v32,(atP o74 0),(atP o74 1),(atP o78 0)])
     (unP .not (atP o74 2) fun r83 =>
     iteP r83
      (K [(.list 1 []),(I 0),(I 2),v3,v4,v5,v6,v7,v8,v9,v10,v11,v12,v13,v14,v15,v16,v17,v18,v19,v20,v21,v22,v23,v24,v25,v26,v27,v28,v29,v30,r79,v32,(atP o74 0),(atP o74 1),(atP o78 0)])
      (binP .eql (atP o74 4) (I 3) fun r84 =>
      iteP r84
       (call Qdm [.one (atP o74 6)] fun o85 =>
       (flatRows r81)∧catP 1 (atP o85 0) r81 fun r86 =>
       binP .geq v6 (I 3) fun r87 =>
       iteP r87
        (K [(.list 1 []),(I 0),(I 5),v3,v4,v5,v6,v7,v8,v9,v10,v11,v12,v13,v14,v15,v16,v17,v18,v19,v20,v21,v22,v23,v24,v25,v26,v27,v28,v29,v30,r79,v32,(atP o74 0),(atP o74 1),(atP o78 0)])
        (call Qfo [.one r86] fun o88 =>
        unP .not (atP o88 0) fun r89 =>
        iteP r89
         (K [(.list 1 []),(I 0),(I 5),v3,v4,v5,v6,v7,v8,v9,v10,v11,v12,v13,v14,v15,v16,v17,v18,v19,v20,v21,v22,v23,v24,v25,v26,v27,v28,v29,v30,r79,v32,(atP o74 0),(atP o74 1),(atP o78 0)])
         (binP .add v6 (I 1) fun r90 =>
         K [r86,(atP o74 5),v2,v3,v4,v5,r90,v7,v8,v9,v10,v11,v12,v13,v14,v15,v16,v17,v18,v19,v20,v21,v22,v23,v24,v25,v26,v27,v28,v29,v30,r79,v32,(atP o74 0),(atP o74 1),(atP o78 0)])))
       (lenP r81 fun r91 =>
       binP .eql r91 (I 0) fun r92 =>
       iteP r92
        (call Qdn [.agg [(atP o74 3),(atP o74 4),(atP o74 5),(atP o74 6)]] fun o93 =>
        K [(.list 1 []),(I 0),(I 1),(atP o93 0),(atP o93 1),(atP o93 2),v6,v7,v8,v9,v10,v11,v12,v13,v14,v15,v16,v17,v18,v19,v20,v21,v22,v23,v24,v25,v26,v27,v28,v29,v30,r79,(atP o93 3),(atP o74 0),(atP o74 1),(atP o78 0)])
        (binP .eql (atP o74 4) (I 2) fun r94 =>
        iteP r94
         (K [r81,(atP o74 5),v2,v3,v4,v5,v6,v7,v8,v9,v10,v11,v12,v13,v14,v15,v16,v17,v18,v19,v20,v21,v22,v23,v24,v25,v26,v27,v28,v29,v30,r79,v32,(atP o74 0),(atP o74 1),(atP o78 0)])
         (K [(.list 1 []),(I 0),(I 4),v3,v4,v5,v6,v7,v8,v9,v10,v11,v12,v13,v14,v15,v16,v17,v18,v19,v20,v21,v22,v23,v24,v25,v26,v27,v28,v29,v30,r79,v32,(atP o74 0),(atP o74 1),(atP o78 0)]))))))∧True)∧True)∧((natP (I 1) fun n95 =>
    cutP 1 v0 (some n95) none fun r96 =>
    (unP .not (atP o74 7) fun r97 =>
    iteP r97
     (K [(.list 1 []),(I 0),(I 3),v3,v4,v5,v6,v7,v8,v9,v10,v11,v12,v13,v14,v15,v16,v17,v18,v19,v20,v21,v22,v23,v24,v25,v26,v27,v28,v29,v30,r79,v32,(atP o74 0),(atP o74 1),(atP o78 0)])
     (unP .not (atP o74 2) fun r98 =>
     iteP r98
      (K [(.list 1 []),(I 0),(I 2),v3,v4,v5,v6,v7,v8,v9,v10,v11,v12,v13,v14,v15,v16,v17,v18,v19,v20,v21,v22,v23,v24,v25,v26,v27,v28,v29,v30,r79,v32,(atP o74 0),(atP o74 1),(atP o78 0)])
      (binP .eql (atP o74 4) (I 3) fun r99 =>
      iteP r99
       (call Qdm [.one (atP o74 6)] fun o100 =>
       (flatRows r96)∧catP 1 (atP o100 0) r96 fun r101 =>
       binP .geq v6 (I 3) fun r102 =>
       iteP r102
        (K [(.list 1 []),(I 0),(I 5),v3,v4,v5,v6,v7,v8,v9,v10,v11,v12,v13,v14,v15,v16,v17,v18,v19,v20,v21,v22,v23,v24,v25,v26,v27,v28,v29,v30,r79,v32,(atP o74 0),(atP o74 1),(atP o78 0)])
        (call Qfo [.one r101] fun o103 =>
        unP .not (atP o103 0) fun r104 =>
        iteP r104
         (K [(.list 1 []),(I 0),(I 5),v3,v4,v5,v6,v7,v8,v9,v10,v11,v12,v13,v14,v15,v16,v17,v18,v19,v20,v21,v22,v23,v24,v25,v26,v27,v28,v29,v30,r79,v32,(atP o74 0),(atP o74 1),(atP o78 0)])
         (binP .add v6 (I 1) fun r105 =>
         K [r101,(atP o74 5),v2,v3,v4,v5,r105,v7,v8,v9,v10,v11,v12,v13,v14,v15,v16,v17,v18,v19,v20,v21,v22,v23,v24,v25,v26,v27,v28,v29,v30,r79,v32,(atP o74 0),(atP o74 1),(atP o78 0)])))
       (lenP r96 fun r106 =>
       binP .eql r106 (I 0) fun r107 =>
       iteP r107
        (call Qdn [.agg [(atP o74 3),(atP o74 4),(atP o74 5),(atP o74 6)]] fun o108 =>
        K [(.list 1 []),(I 0),(I 1),(atP o108 0),(atP o108 1),(atP o108 2),v6,v7,v8,v9,v10,v11,v12,v13,v14,v15,v16,v17,v18,v19,v20,v21,v22,v23,v24,v25,v26,v27,v28,v29,v30,r79,(atP o108 3),(atP o74 0),(atP o74 1),(atP o78 0)])
        (binP .eql (atP o74 4) (I 2) fun r109 =>
        iteP r109
         (K [r96,(atP o74 5),v2,v3,v4,v5,v6,v7,v8,v9,v10,v11,v12,v13,v14,v15,v16,v17,v18,v19,v20,v21,v22,v23,v24,v25,v26,v27,v28,v29,v30,r79,v32,(atP o74 0),(atP o74 1),(atP o78 0)])
         (K [(.list 1 []),(I 0),(I 4),v3,v4,v5,v6,v7,v8,v9,v10,v11,v12,v13,v14,v15,v16,v17,v18,v19,v20,v21,v22,v23,v24,v25,v26,v27,v28,v29,v30,r79,v32,(atP o74 0),(atP o74 1),(atP o78 0)]))))))∧True)∧True)∧True)∧True)
    (((1=1)∧(1≤16777216)∧(1=1)∧(0=0)∧(1=1)∧(flatCond [.pv (I 0)] [.pv v1])∧catP 1 v31 (.list 1 [[v1]]) fun r110 =>
    natP (I 1) fun n111 =>
    cutP 1 v0 (some n111) none fun r112 =>
    (((unP .not (atP o74 7) fun r113 =>
    iteP r113
     (K [(.list 1 []),(I 0),(I 3),v3,v4,v5,v6,v7,v8,v9,v10,v11,v12,v13,v14,v15,v16,v17,v18,v19,v20,v21,v22,v23,v24,v25,v26,v27,v28,v29,v30,r110,v32,(atP o74 0),(atP o74 1),v35])
     (unP .not (atP o74 2) fun r114 =>
     iteP r114
      (K [(.list 1 []),(I 0),(I 2),v3,v4,v5,v6,v7,v8,v9,v10,v11,v12,v13,v14,v15,v16,v17,v18,v19,v20,v21,v22,v23,v24,v25,v26,v27,v28,v29,v30,r110,v32,(atP o74 0),(atP o74 1),v35])
      (binP .eql (atP o74 4) (I 3) fun r115 =>
      iteP r115
       (call Qdm [.one (atP o74 6)] fun o116 =>
       (flatRows r112)∧catP 1 (atP o116 0) r112 fun r117 =>
       binP .geq v6 (I 3) fun r118 =>
       iteP r118
        (K [(.list 1 []),(I 0),(I 5),v3,v4,v5,v6,v7,v8,v9,v10,v11,v12,v13,v14,v15,v16,v17,v18,v19,v20,v21,v22,v23,v24,v25,v26,v27,v28,v29,v30,r110,v32,(atP o74 0),(atP o74 1),v35])
        (call Qfo [.one r117] fun o119 =>
        unP .not (atP o119 0) fun r120 =>
        iteP r120
         (K [(.list 1 []),(I 0),(I 5),v3,v4,v5,v6,v7,v8,v9,v10,v11,v12,v13,v14,v15,v16,v17,v18,v19,v20,v21,v22,v23,v24,v25,v26,v27,v28,v29,v30,r110,v32,(atP o74 0),(atP o74 1),v35])
         (binP .add v6 (I 1) fun r121 =>
         K [r117,(atP o74 5),v2,v3,v4,v5,r121,v7,v8,v9,v10,v11,v12,v13,v14,v15,v16,v17,v18,v19,v20,v21,v22,v23,v24,v25,v26,v27,v28,v29,v30,r110,v32,(atP o74 0),(atP o74 1),v35])))
       (lenP r112 fun r122 =>
       binP .eql r122 (I 0) fun r123 =>
       iteP r123
        (call Qdn [.agg [(atP o74 3),(atP o74 4),(atP o74 5),(atP o74 6)]] fun o124 =>
        K [(.list 1 []),(I 0),(I 1),(atP o124 0),(atP o124 1),(atP o124 2),v6,v7,v8,v9,v10,v11,v12,v13,v14,v15,v16,v17,v18,v19,v20,v21,v22,v23,v24,v25,v26,v27,v28,v29,v30,r110,(atP o124 3),(atP o74 0),(atP o74 1),v35])
        (binP .eql (atP o74 4) (I 2) fun r125 =>
        iteP r125
         (K [r112,(atP o74 5),v2,v3,v4,v5,v6,v7,v8,v9,v10,v11,v12,v13,v14,v15,v16,v17,v18,v19,v20,v21,v22,v23,v24,v25,v26,v27,v28,v29,v30,r110,v32,(atP o74 0),(atP o74 1),v35])
         (K [(.list 1 []),(I 0),(I 4),v3,v4,v5,v6,v7,v8,v9,v10,v11,v12,v13,v14,v15,v16,v17,v18,v19,v20,v21,v22,v23,v24,v25,v26,v27,v28,v29,v30,r110,v32,(atP o74 0),(atP o74 1),v35]))))))∧True)∧True)∧((natP (I 1) fun n126 =>
    cutP 1 v0 (some n126) none fun r127 =>
    (unP .not (atP o74 7) fun r128 =>
    iteP r128
     (K [(.list 1 []),(I 0),(I 3),v3,v4,v5,v6,v7,v8,v9,v10,v11,v12,v13,v14,v15,v16,v17,v18,v19,v20,v21,v22,v23,v24,v25,v26,v27,v28,v29,v30,r110,v32,(atP o74 0),(atP o74 1),v35])
     (unP .not (atP o74 2) fun r129 =>
     iteP r129
      (K [(.list 1 []),(I 0),(I 2),v3,v4,v5,v6,v7,v8,v9,v10,v11,v12,v13,v14,v15,v16,v17,v18,v19,v20,v21,v22,v23,v24,v25,v26,v27,v28,v29,v30,r110,v32,(atP o74 0),(atP o74 1),v35])
      (binP .eql (atP o74 4) (I 3) fun r130 =>
      iteP r130
       (call Qdm [.one (atP o74 6)] fun o131 =>
       (flatRows r127)∧catP 1 (atP o131 0) r127 fun r132 =>
       binP .geq v6 (I 3) fun r133 =>
       iteP r133
        (K [(.list 1 []),(I 0),(I 5),v3,v4,v5,v6,v7,v8,v9,v10,v11,v12,v13,v14,v15,v16,v17,v18,v19,v20,v21,v22,v23,v24,v25,v26,v27,v28,v29,v30,r110,v32,(atP o74 0),(atP o74 1),v35])
        (call Qfo [.one r132] fun o134 =>
        unP .not (atP o134 0) fun r135 =>
        iteP r135
         (K [(.list 1 []),(I 0),(I 5),v3,v4,v5,v6,v7,v8,v9,v10,v11,v12,v13,v14,v15,v16,v17,v18,v19,v20,v21,v22,v23,v24,v25,v26,v27,v28,v29,v30,r110,v32,(atP o74 0),(atP o74 1),v35])
         (binP .add v6 (I 1) fun r136 =>
         K [r132,(atP o74 5),v2,v3,v4,v5,r136,v7,v8,v9,v10,v11,v12,v13,v14,v15,v16,v17,v18,v19,v20,v21,v22,v23,v24,v25,v26,v27,v28,v29,v30,r110,v32,(atP o74 0),(atP o74 1),v35])))
       (lenP r127 fun r137 =>
       binP .eql r137 (I 0) fun r138 =>
       iteP r138
        (call Qdn [.agg [(atP o74 3),(atP o74 4),(atP o74 5),(atP o74 6)]] fun o139 =>
        K [(.list 1 []),(I 0),(I 1),(atP o139 0),(atP o139 1),(atP o139 2),v6,v7,v8,v9,v10,v11,v12,v13,v14,v15,v16,v17,v18,v19,v20,v21,v22,v23,v24,v25,v26,v27,v28,v29,v30,r110,(atP o139 3),(atP o74 0),(atP o74 1),v35])
        (binP .eql (atP o74 4) (I 2) fun r140 =>
        iteP r140
         (K [r127,(atP o74 5),v2,v3,v4,v5,v6,v7,v8,v9,v10,v11,v12,v13,v14,v15,v16,v17,v18,v19,v20,v21,v22,v23,v24,v25,v26,v27,v28,v29,v30,r110,v32,(atP o74 0),(atP o74 1),v35])
         (K [(.list 1 []),(I 0),(I 4),v3,v4,v5,v6,v7,v8,v9,v10,v11,v12,v13,v14,v15,v16,v17,v18,v19,v20,v21,v22,v23,v24,v25,v26,v27,v28,v29,v30,r110,v32,(atP o74 0),(atP o74 1),v35]))))))∧True)∧True)∧True)∧True))∧True)∧True)∧True)∧True)∧True)∧(call Qkf [.agg [v35],.one v1,.one (atP c1 0)] fun o141 =>
   call Qkg [.one v18,.one v1,.one (atP c1 0)] fun o142 =>
   (((1=1)∧(21≤16777216)∧(21=21)∧(0=0)∧(21=21)∧(flatCond [.nil 257 17,zB,.pv (.str ⟨#[]⟩),.pv (I 0),.pv (I 0),.nil 9 1,.pv (I 0),.nil 3 1,.pv (I 0),.pv (.str ⟨#[]⟩),.pv (I 0),.pv (I 0),.nil 9 1,.pv (.str ⟨#[]⟩),.pv (I 0),.pv (I 0),.nil 9 1,.pv (I 0),.nil 3 1,.pv (I 0),.nil 3 1] [.own 27,.pv (atP o141 1),.pv (atP o141 2),.pv (atP o141 3),.pv (atP o141 4),.own 32,.pv (atP o141 6),.own 34,.pv (atP o141 8),.pv (atP o141 9),.pv (atP o141 10),.pv (atP o141 11),.own 39,.pv (atP o141 13),.pv (atP o141 14),.pv (atP o141 15),.own 43,.pv (atP o141 17),.own 45,.pv (atP o141 19),.own 47])∧(catP 21 (.list 21 [[(atP o141 0),(atP o141 1),(atP o141 2),(atP o141 3),(atP o141 4),(atP o141 5),(atP o141 6),(atP o141 7),(atP o141 8),(atP o141 9),(atP o141 10),(atP o141 11),(atP o141 12),(atP o141 13),(atP o141 14),(atP o141 15),(atP o141 16),(atP o141 17),(atP o141 18),(atP o141 19),(atP o141 20)]]) (atP o142 0) fun r143 =>
   (call Qjq [.agg [v33,v34],.one r143,.one v1,.one (atP c1 0),.one v17] fun o144 =>
   binP .geq (atP o144 9) (I 0) fun r145 =>
   iteP r145
    (boundP 21 r143 (atP o144 9) fun n146 =>
    rowP 21 r143 n146 fun c147 =>
    call Qkh [.agg [v35],.one v1,.one (atP c1 0),.agg [(atP c147 0),(atP c147 1),(atP c147 2),(atP c147 3),(atP c147 4),(atP c147 5),(atP c147 6),(atP c147 7),(atP c147 8),(atP c147 9),(atP c147 10),(atP c147 11),(atP c147 12),(atP c147 13),(atP c147 14),(atP c147 15),(atP c147 16),(atP c147 17),(atP c147 18),(atP c147 19),(atP c147 20)],.one v17] fun o148 =>
    (((1=1)∧(1≤16777216)∧(1=1)∧(0=0)∧(1=1)∧(flatCond [.pv (I 0)] [.pv v1])∧catP 1 v31 (.list 1 [[v1]]) fun r149 =>
    natP (I 1) fun n150 =>
    cutP 1 v0 (some n150) none fun r151 =>
    (((unP .not (atP o144 7) fun r152 =>
    iteP r152
     (K [(.list 1 []),(I 0),(I 3),v3,v4,v5,v6,v7,v8,v9,v10,v11,v12,v13,v14,v15,v16,v17,v18,v19,v20,v21,v22,v23,v24,v25,v26,v27,v28,v29,v30,r149,v32,(atP o144 0),(atP o144 1),(atP o148 0)])
     (unP .not (atP o144 2) fun r153 =>
     iteP r153
      (K [(.list 1 []),(I 0),(I 2),v3,v4,v5,v6,v7,v8,v9,v10,v11,v12,v13,v14,v15,v16,v17,v18,v19,v20,v21,v22,v23,v24,v25,v26,v27,v28,v29,v30,r149,v32,(atP o144 0),(atP o144 1),(atP o148 0)])
      (binP .eql (atP o144 4) (I 3) fun r154 =>
      iteP r154
       (call Qdm [.one (atP o144 6)] fun o155 =>
       (flatRows r151)∧catP 1 (atP o155 0) r151 fun r156 =>
       binP .geq v6 (I 3) fun r157 =>
       iteP r157
        (K [(.list 1 []),(I 0),(I 5),v3,v4,v5,v6,v7,v8,v9,v10,v11,v12,v13,v14,v15,v16,v17,v18,v19,v20,v21,v22,v23,v24,v25,v26,v27,v28,v29,v30,r149,v32,(atP o144 0),(atP o144 1),(atP o148 0)])
        (call Qfo [.one r156] fun o158 =>
        unP .not (atP o158 0) fun r159 =>
        iteP r159
         (K [(.list 1 []),(I 0),(I 5),v3,v4,v5,v6,v7,v8,v9,v10,v11,v12,v13,v14,v15,v16,v17,v18,v19,v20,v21,v22,v23,v24,v25,v26,v27,v28,v29,v30,r149,v32,(atP o144 0),(atP o144 1),(atP o148 0)])
         (binP .add v6 (I 1) fun r160 =>
         K [r156,(atP o144 5),v2,v3,v4,v5,r160,v7,v8,v9,v10,v11,v12,v13,v14,v15,v16,v17,v18,v19,v20,v21,v22,v23,v24,v25,v26,v27,v28,v29,v30,r149,v32,(atP o144 0),(atP o144 1),(atP o148 0)])))
       (lenP r151 fun r161 =>
       binP .eql r161 (I 0) fun r162 =>
       iteP r162
        (call Qdn [.agg [(atP o144 3),(atP o144 4),(atP o144 5),(atP o144 6)]] fun o163 =>
        K [(.list 1 []),(I 0),(I 1),(atP o163 0),(atP o163 1),(atP o163 2),v6,v7,v8,v9,v10,v11,v12,v13,v14,v15,v16,v17,v18,v19,v20,v21,v22,v23,v24,v25,v26,v27,v28,v29,v30,r149,(atP o163 3),(atP o144 0),(atP o144 1),(atP o148 0)])
        (binP .eql (atP o144 4) (I 2) fun r164 =>
        iteP r164
         (K [r151,(atP o144 5),v2,v3,v4,v5,v6,v7,v8,v9,v10,v11,v12,v13,v14,v15,v16,v17,v18,v19,v20,v21,v22,v23,v24,v25,v26,v27,v28,v29,v30,r149,v32,(atP o144 0),(atP o144 1),(atP o148 0)])
         (K [(.list 1 []),(I 0),(I 4),v3,v4,v5,v6,v7,v8,v9,v10,v11,v12,v13,v14,v15,v16,v17,v18,v19,v20,v21,v22,v23,v24,v25,v26,v27,v28,v29,v30,r149,v32,(atP o144 0),(atP o144 1),(atP o148 0)]))))))∧True)∧True)∧((natP (I 1) fun n165 =>
    cutP 1 v0 (some n165) none fun r166 =>
    (unP .not (atP o144 7) fun r167 =>
    iteP r167
     (K [(.list 1 []),(I 0),(I 3),v3,v4,v5,v6,v7,v8,v9,v10,v11,v12,v13,v14,v15,v16,v17,v18,v19,v20,v21,v22,v23,v24,v25,v26,v27,v28,v29,v30,r149,v32,(atP o144 0),(atP o144 1),(atP o148 0)])
     (unP .not (atP o144 2) fun r168 =>
     iteP r168
      (K [(.list 1 []),(I 0),(I 2),v3,v4,v5,v6,v7,v8,v9,v10,v11,v12,v13,v14,v15,v16,v17,v18,v19,v20,v21,v22,v23,v24,v25,v26,v27,v28,v29,v30,r149,v32,(atP o144 0),(atP o144 1),(atP o148 0)])
      (binP .eql (atP o144 4) (I 3) fun r169 =>
      iteP r169
       (call Qdm [.one (atP o144 6)] fun o170 =>
       (flatRows r166)∧catP 1 (atP o170 0) r166 fun r171 =>
       binP .geq v6 (I 3) fun r172 =>
       iteP r172
        (K [(.list 1 []),(I 0),(I 5),v3,v4,v5,v6,v7,v8,v9,v10,v11,v12,v13,v14,v15,v16,v17,v18,v19,v20,v21,v22,v23,v24,v25,v26,v27,v28,v29,v30,r149,v32,(atP o144 0),(atP o144 1),(atP o148 0)])
        (call Qfo [.one r171] fun o173 =>
        unP .not (atP o173 0) fun r174 =>
        iteP r174
         (K [(.list 1 []),(I 0),(I 5),v3,v4,v5,v6,v7,v8,v9,v10,v11,v12,v13,v14,v15,v16,v17,v18,v19,v20,v21,v22,v23,v24,v25,v26,v27,v28,v29,v30,r149,v32,(atP o144 0),(atP o144 1),(atP o148 0)])
         (binP .add v6 (I 1) fun r175 =>
         K [r171,(atP o144 5),v2,v3,v4,v5,r175,v7,v8,v9,v10,v11,v12,v13,v14,v15,v16,v17,v18,v19,v20,v21,v22,v23,v24,v25,v26,v27,v28,v29,v30,r149,v32,(atP o144 0),(atP o144 1),(atP o148 0)])))
       (lenP r166 fun r176 =>
       binP .eql r176 (I 0) fun r177 =>
       iteP r177
        (call Qdn [.agg [(atP o144 3),(atP o144 4),(atP o144 5),(atP o144 6)]] fun o178 =>
        K [(.list 1 []),(I 0),(I 1),(atP o178 0),(atP o178 1),(atP o178 2),v6,v7,v8,v9,v10,v11,v12,v13,v14,v15,v16,v17,v18,v19,v20,v21,v22,v23,v24,v25,v26,v27,v28,v29,v30,r149,(atP o178 3),(atP o144 0),(atP o144 1),(atP o148 0)])
        (binP .eql (atP o144 4) (I 2) fun r179 =>
        iteP r179
         (K [r166,(atP o144 5),v2,v3,v4,v5,v6,v7,v8,v9,v10,v11,v12,v13,v14,v15,v16,v17,v18,v19,v20,v21,v22,v23,v24,v25,v26,v27,v28,v29,v30,r149,v32,(atP o144 0),(atP o144 1),(atP o148 0)])
         (K [(.list 1 []),(I 0),(I 4),v3,v4,v5,v6,v7,v8,v9,v10,v11,v12,v13,v14,v15,v16,v17,v18,v19,v20,v21,v22,v23,v24,v25,v26,v27,v28,v29,v30,r149,v32,(atP o144 0),(atP o144 1),(atP o148 0)]))))))∧True)∧True)∧True)∧True)∧True)
    ((((1=1)∧(1≤16777216)∧(1=1)∧(0=0)∧(1=1)∧(flatCond [.pv (I 0)] [.pv v1])∧catP 1 v31 (.list 1 [[v1]]) fun r180 =>
    natP (I 1) fun n181 =>
    cutP 1 v0 (some n181) none fun r182 =>
    (((unP .not (atP o144 7) fun r183 =>
    iteP r183
     (K [(.list 1 []),(I 0),(I 3),v3,v4,v5,v6,v7,v8,v9,v10,v11,v12,v13,v14,v15,v16,v17,v18,v19,v20,v21,v22,v23,v24,v25,v26,v27,v28,v29,v30,r180,v32,(atP o144 0),(atP o144 1),v35])
     (unP .not (atP o144 2) fun r184 =>
     iteP r184
      (K [(.list 1 []),(I 0),(I 2),v3,v4,v5,v6,v7,v8,v9,v10,v11,v12,v13,v14,v15,v16,v17,v18,v19,v20,v21,v22,v23,v24,v25,v26,v27,v28,v29,v30,r180,v32,(atP o144 0),(atP o144 1),v35])
      (binP .eql (atP o144 4) (I 3) fun r185 =>
      iteP r185
       (call Qdm [.one (atP o144 6)] fun o186 =>
       (flatRows r182)∧catP 1 (atP o186 0) r182 fun r187 =>
       binP .geq v6 (I 3) fun r188 =>
       iteP r188
        (K [(.list 1 []),(I 0),(I 5),v3,v4,v5,v6,v7,v8,v9,v10,v11,v12,v13,v14,v15,v16,v17,v18,v19,v20,v21,v22,v23,v24,v25,v26,v27,v28,v29,v30,r180,v32,(atP o144 0),(atP o144 1),v35])
        (call Qfo [.one r187] fun o189 =>
        unP .not (atP o189 0) fun r190 =>
        iteP r190
         (K [(.list 1 []),(I 0),(I 5),v3,v4,v5,v6,v7,v8,v9,v10,v11,v12,v13,v14,v15,v16,v17,v18,v19,v20,v21,v22,v23,v24,v25,v26,v27,v28,v29,v30,r180,v32,(atP o144 0),(atP o144 1),v35])
         (binP .add v6 (I 1) fun r191 =>
         K [r187,(atP o144 5),v2,v3,v4,v5,r191,v7,v8,v9,v10,v11,v12,v13,v14,v15,v16,v17,v18,v19,v20,v21,v22,v23,v24,v25,v26,v27,v28,v29,v30,r180,v32,(atP o144 0),(atP o144 1),v35])))
       (lenP r182 fun r192 =>
       binP .eql r192 (I 0) fun r193 =>
       iteP r193
        (call Qdn [.agg [(atP o144 3),(atP o144 4),(atP o144 5),(atP o144 6)]] fun o194 =>
        K [(.list 1 []),(I 0),(I 1),(atP o194 0),(atP o194 1),(atP o194 2),v6,v7,v8,v9,v10,v11,v12,v13,v14,v15,v16,v17,v18,v19,v20,v21,v22,v23,v24,v25,v26,v27,v28,v29,v30,r180,(atP o194 3),(atP o144 0),(atP o144 1),v35])
        (binP .eql (atP o144 4) (I 2) fun r195 =>
        iteP r195
         (K [r182,(atP o144 5),v2,v3,v4,v5,v6,v7,v8,v9,v10,v11,v12,v13,v14,v15,v16,v17,v18,v19,v20,v21,v22,v23,v24,v25,v26,v27,v28,v29,v30,r180,v32,(atP o144 0),(atP o144 1),v35])
         (K [(.list 1 []),(I 0),(I 4),v3,v4,v5,v6,v7,v8,v9,v10,v11,v12,v13,v14,v15,v16,v17,v18,v19,v20,v21,v22,v23,v24,v25,v26,v27,v28,v29,v30,r180,v32,(atP o144 0),(atP o144 1),v35]))))))∧True)∧True)∧((natP (I 1) fun n196 =>
    cutP 1 v0 (some n196) none fun r197 =>
    (unP .not (atP o144 7) fun r198 =>
    iteP r198
     (K [(.list 1 []),(I 0),(I 3),v3,v4,v5,v6,v7,v8,v9,v10,v11,v12,v13,v14,v15,v16,v17,v18,v19,v20,v21,v22,v23,v24,v25,v26,v27,v28,v29,v30,r180,v32,(atP o144 0),(atP o144 1),v35])
     (unP .not (atP o144 2) fun r199 =>
     iteP r199
      (K [(.list 1 []),(I 0),(I 2),v3,v4,v5,v6,v7,v8,v9,v10,v11,v12,v13,v14,v15,v16,v17,v18,v19,v20,v21,v22,v23,v24,v25,v26,v27,v28,v29,v30,r180,v32,(atP o144 0),(atP o144 1),v35])
      (binP .eql (atP o144 4) (I 3) fun r200 =>
      iteP r200
       (call Qdm [.one (atP o144 6)] fun o201 =>
       (flatRows r197)∧catP 1 (atP o201 0) r197 fun r202 =>
       binP .geq v6 (I 3) fun r203 =>
       iteP r203
        (K [(.list 1 []),(I 0),(I 5),v3,v4,v5,v6,v7,v8,v9,v10,v11,v12,v13,v14,v15,v16,v17,v18,v19,v20,v21,v22,v23,v24,v25,v26,v27,v28,v29,v30,r180,v32,(atP o144 0),(atP o144 1),v35])
        (call Qfo [.one r202] fun o204 =>
        unP .not (atP o204 0) fun r205 =>
        iteP r205
         (K [(.list 1 []),(I 0),(I 5),v3,v4,v5,v6,v7,v8,v9,v10,v11,v12,v13,v14,v15,v16,v17,v18,v19,v20,v21,v22,v23,v24,v25,v26,v27,v28,v29,v30,r180,v32,(atP o144 0),(atP o144 1),v35])
         (binP .add v6 (I 1) fun r206 =>
         K [r202,(atP o144 5),v2,v3,v4,v5,r206,v7,v8,v9,v10,v11,v12,v13,v14,v15,v16,v17,v18,v19,v20,v21,v22,v23,v24,v25,v26,v27,v28,v29,v30,r180,v32,(atP o144 0),(atP o144 1),v35])))
       (lenP r197 fun r207 =>
       binP .eql r207 (I 0) fun r208 =>
       iteP r208
        (call Qdn [.agg [(atP o144 3),(atP o144 4),(atP o144 5),(atP o144 6)]] fun o209 =>
        K [(.list 1 []),(I 0),(I 1),(atP o209 0),(atP o209 1),(atP o209 2),v6,v7,v8,v9,v10,v11,v12,v13,v14,v15,v16,v17,v18,v19,v20,v21,v22,v23,v24,v25,v26,v27,v28,v29,v30,r180,(atP o209 3),(atP o144 0),(atP o144 1),v35])
        (binP .eql (atP o144 4) (I 2) fun r210 =>
        iteP r210
         (K [r197,(atP o144 5),v2,v3,v4,v5,v6,v7,v8,v9,v10,v11,v12,v13,v14,v15,v16,v17,v18,v19,v20,v21,v22,v23,v24,v25,v26,v27,v28,v29,v30,r180,v32,(atP o144 0),(atP o144 1),v35])
         (K [(.list 1 []),(I 0),(I 4),v3,v4,v5,v6,v7,v8,v9,v10,v11,v12,v13,v14,v15,v16,v17,v18,v19,v20,v21,v22,v23,v24,v25,v26,v27,v28,v29,v30,r180,v32,(atP o144 0),(atP o144 1),v35]))))))∧True)∧True)∧True)∧True)∧True))∧True)∧True)∧True)∧((1=1)∧(21≤16777216)∧(21=21)∧(0=0)∧(21=21)∧(flatCond [.nil 257 17,zB,.pv (.str ⟨#[]⟩),.pv (I 0),.pv (I 0),.nil 9 1,.pv (I 0),.nil 3 1,.pv (I 0),.pv (.str ⟨#[]⟩),.pv (I 0),.pv (I 0),.nil 9 1,.pv (.str ⟨#[]⟩),.pv (I 0),.pv (I 0),.nil 9 1,.pv (I 0),.nil 3 1,.pv (I 0),.nil 3 1] [.own 27,.pv (atP o141 1),.pv (atP o141 2),.pv (atP o141 3),.pv (atP o141 4),.own 32,.pv (atP o141 6),.own 34,.pv (atP o141 8),.pv (atP o141 9),.pv (atP o141 10),.pv (atP o141 11),.own 39,.pv (atP o141 13),.pv (atP o141 14),.pv (atP o141 15),.own 43,.pv (atP o141 17),.own 45,.pv (atP o141 19),.own 47])∧(call Qkg [.one v18,.one v1,.one (atP c1 0)] fun o211 =>
   (catP 21 (.list 21 [[(atP o141 0),(atP o141 1),(atP o141 2),(atP o141 3),(atP o141 4),(atP o141 5),(atP o141 6),(atP o141 7),(atP o141 8),(atP o141 9),(atP o141 10),(atP o141 11),(atP o141 12),(atP o141 13),(atP o141 14),(atP o141 15),(atP o141 16),(atP o141 17),(atP o141 18),(atP o141 19),(atP o141 20)]]) (atP o211 0) fun r212 =>
   (call Qjq [.agg [v33,v34],.one r212,.one v1,.one (atP c1 0),.one v17] fun o213 =>
   binP .geq (atP o213 9) (I 0) fun r214 =>
   iteP r214
    (boundP 21 r212 (atP o213 9) fun n215 =>
    rowP 21 r212 n215 fun c216 =>
    call Qkh [.agg [v35],.one v1,.one (atP c1 0),.agg [(atP c216 0),(atP c216 1),(atP c216 2),(atP c216 3),(atP c216 4),(atP c216 5),(atP c216 6),(atP c216 7),(atP c216 8),(atP c216 9),(atP c216 10),(atP c216 11),(atP c216 12),(atP c216 13),(atP c216 14),(atP c216 15),(atP c216 16),(atP c216 17),(atP c216 18),(atP c216 19),(atP c216 20)],.one v17] fun o217 =>
    (((1=1)∧(1≤16777216)∧(1=1)∧(0=0)∧(1=1)∧(flatCond [.pv (I 0)] [.pv v1])∧catP 1 v31 (.list 1 [[v1]]) fun r218 =>
    natP (I 1) fun n219 =>
    cutP 1 v0 (some n219) none fun r220 =>
    (((unP .not (atP o213 7) fun r221 =>
    iteP r221
     (K [(.list 1 []),(I 0),(I 3),v3,v4,v5,v6,v7,v8,v9,v10,v11,v12,v13,v14,v15,v16,v17,v18,v19,v20,v21,v22,v23,v24,v25,v26,v27,v28,v29,v30,r218,v32,(atP o213 0),(atP o213 1),(atP o217 0)])
     (unP .not (atP o213 2) fun r222 =>
     iteP r222
      (K [(.list 1 []),(I 0),(I 2),v3,v4,v5,v6,v7,v8,v9,v10,v11,v12,v13,v14,v15,v16,v17,v18,v19,v20,v21,v22,v23,v24,v25,v26,v27,v28,v29,v30,r218,v32,(atP o213 0),(atP o213 1),(atP o217 0)])
      (binP .eql (atP o213 4) (I 3) fun r223 =>
      iteP r223
       (call Qdm [.one (atP o213 6)] fun o224 =>
       (flatRows r220)∧catP 1 (atP o224 0) r220 fun r225 =>
       binP .geq v6 (I 3) fun r226 =>
       iteP r226
        (K [(.list 1 []),(I 0),(I 5),v3,v4,v5,v6,v7,v8,v9,v10,v11,v12,v13,v14,v15,v16,v17,v18,v19,v20,v21,v22,v23,v24,v25,v26,v27,v28,v29,v30,r218,v32,(atP o213 0),(atP o213 1),(atP o217 0)])
        (call Qfo [.one r225] fun o227 =>
        unP .not (atP o227 0) fun r228 =>
        iteP r228
         (K [(.list 1 []),(I 0),(I 5),v3,v4,v5,v6,v7,v8,v9,v10,v11,v12,v13,v14,v15,v16,v17,v18,v19,v20,v21,v22,v23,v24,v25,v26,v27,v28,v29,v30,r218,v32,(atP o213 0),(atP o213 1),(atP o217 0)])
         (binP .add v6 (I 1) fun r229 =>
         K [r225,(atP o213 5),v2,v3,v4,v5,r229,v7,v8,v9,v10,v11,v12,v13,v14,v15,v16,v17,v18,v19,v20,v21,v22,v23,v24,v25,v26,v27,v28,v29,v30,r218,v32,(atP o213 0),(atP o213 1),(atP o217 0)])))
       (lenP r220 fun r230 =>
       binP .eql r230 (I 0) fun r231 =>
       iteP r231
        (call Qdn [.agg [(atP o213 3),(atP o213 4),(atP o213 5),(atP o213 6)]] fun o232 =>
        K [(.list 1 []),(I 0),(I 1),(atP o232 0),(atP o232 1),(atP o232 2),v6,v7,v8,v9,v10,v11,v12,v13,v14,v15,v16,v17,v18,v19,v20,v21,v22,v23,v24,v25,v26,v27,v28,v29,v30,r218,(atP o232 3),(atP o213 0),(atP o213 1),(atP o217 0)])
        (binP .eql (atP o213 4) (I 2) fun r233 =>
        iteP r233
         (K [r220,(atP o213 5),v2,v3,v4,v5,v6,v7,v8,v9,v10,v11,v12,v13,v14,v15,v16,v17,v18,v19,v20,v21,v22,v23,v24,v25,v26,v27,v28,v29,v30,r218,v32,(atP o213 0),(atP o213 1),(atP o217 0)])
         (K [(.list 1 []),(I 0),(I 4),v3,v4,v5,v6,v7,v8,v9,v10,v11,v12,v13,v14,v15,v16,v17,v18,v19,v20,v21,v22,v23,v24,v25,v26,v27,v28,v29,v30,r218,v32,(atP o213 0),(atP o213 1),(atP o217 0)]))))))∧True)∧True)∧((natP (I 1) fun n234 =>
    cutP 1 v0 (some n234) none fun r235 =>
    (unP .not (atP o213 7) fun r236 =>
    iteP r236
     (K [(.list 1 []),(I 0),(I 3),v3,v4,v5,v6,v7,v8,v9,v10,v11,v12,v13,v14,v15,v16,v17,v18,v19,v20,v21,v22,v23,v24,v25,v26,v27,v28,v29,v30,r218,v32,(atP o213 0),(atP o213 1),(atP o217 0)])
     (unP .not (atP o213 2) fun r237 =>
     iteP r237
      (K [(.list 1 []),(I 0),(I 2),v3,v4,v5,v6,v7,v8,v9,v10,v11,v12,v13,v14,v15,v16,v17,v18,v19,v20,v21,v22,v23,v24,v25,v26,v27,v28,v29,v30,r218,v32,(atP o213 0),(atP o213 1),(atP o217 0)])
      (binP .eql (atP o213 4) (I 3) fun r238 =>
      iteP r238
       (call Qdm [.one (atP o213 6)] fun o239 =>
       (flatRows r235)∧catP 1 (atP o239 0) r235 fun r240 =>
       binP .geq v6 (I 3) fun r241 =>
       iteP r241
        (K [(.list 1 []),(I 0),(I 5),v3,v4,v5,v6,v7,v8,v9,v10,v11,v12,v13,v14,v15,v16,v17,v18,v19,v20,v21,v22,v23,v24,v25,v26,v27,v28,v29,v30,r218,v32,(atP o213 0),(atP o213 1),(atP o217 0)])
        (call Qfo [.one r240] fun o242 =>
        unP .not (atP o242 0) fun r243 =>
        iteP r243
         (K [(.list 1 []),(I 0),(I 5),v3,v4,v5,v6,v7,v8,v9,v10,v11,v12,v13,v14,v15,v16,v17,v18,v19,v20,v21,v22,v23,v24,v25,v26,v27,v28,v29,v30,r218,v32,(atP o213 0),(atP o213 1),(atP o217 0)])
         (binP .add v6 (I 1) fun r244 =>
         K [r240,(atP o213 5),v2,v3,v4,v5,r244,v7,v8,v9,v10,v11,v12,v13,v14,v15,v16,v17,v18,v19,v20,v21,v22,v23,v24,v25,v26,v27,v28,v29,v30,r218,v32,(atP o213 0),(atP o213 1),(atP o217 0)])))
       (lenP r235 fun r245 =>
       binP .eql r245 (I 0) fun r246 =>
       iteP r246
        (call Qdn [.agg [(atP o213 3),(atP o213 4),(atP o213 5),(atP o213 6)]] fun o247 =>
        K [(.list 1 []),(I 0),(I 1),(atP o247 0),(atP o247 1),(atP o247 2),v6,v7,v8,v9,v10,v11,v12,v13,v14,v15,v16,v17,v18,v19,v20,v21,v22,v23,v24,v25,v26,v27,v28,v29,v30,r218,(atP o247 3),(atP o213 0),(atP o213 1),(atP o217 0)])
        (binP .eql (atP o213 4) (I 2) fun r248 =>
        iteP r248
         (K [r235,(atP o213 5),v2,v3,v4,v5,v6,v7,v8,v9,v10,v11,v12,v13,v14,v15,v16,v17,v18,v19,v20,v21,v22,v23,v24,v25,v26,v27,v28,v29,v30,r218,v32,(atP o213 0),(atP o213 1),(atP o217 0)])
         (K [(.list 1 []),(I 0),(I 4),v3,v4,v5,v6,v7,v8,v9,v10,v11,v12,v13,v14,v15,v16,v17,v18,v19,v20,v21,v22,v23,v24,v25,v26,v27,v28,v29,v30,r218,v32,(atP o213 0),(atP o213 1),(atP o217 0)]))))))∧True)∧True)∧True)∧True)∧True)
    ((((1=1)∧(1≤16777216)∧(1=1)∧(0=0)∧(1=1)∧(flatCond [.pv (I 0)] [.pv v1])∧catP 1 v31 (.list 1 [[v1]]) fun r249 =>
    natP (I 1) fun n250 =>
    cutP 1 v0 (some n250) none fun r251 =>
    (((unP .not (atP o213 7) fun r252 =>
    iteP r252
     (K [(.list 1 []),(I 0),(I 3),v3,v4,v5,v6,v7,v8,v9,v10,v11,v12,v13,v14,v15,v16,v17,v18,v19,v20,v21,v22,v23,v24,v25,v26,v27,v28,v29,v30,r249,v32,(atP o213 0),(atP o213 1),v35])
     (unP .not (atP o213 2) fun r253 =>
     iteP r253
      (K [(.list 1 []),(I 0),(I 2),v3,v4,v5,v6,v7,v8,v9,v10,v11,v12,v13,v14,v15,v16,v17,v18,v19,v20,v21,v22,v23,v24,v25,v26,v27,v28,v29,v30,r249,v32,(atP o213 0),(atP o213 1),v35])
      (binP .eql (atP o213 4) (I 3) fun r254 =>
      iteP r254
       (call Qdm [.one (atP o213 6)] fun o255 =>
       (flatRows r251)∧catP 1 (atP o255 0) r251 fun r256 =>
       binP .geq v6 (I 3) fun r257 =>
       iteP r257
        (K [(.list 1 []),(I 0),(I 5),v3,v4,v5,v6,v7,v8,v9,v10,v11,v12,v13,v14,v15,v16,v17,v18,v19,v20,v21,v22,v23,v24,v25,v26,v27,v28,v29,v30,r249,v32,(atP o213 0),(atP o213 1),v35])
        (call Qfo [.one r256] fun o258 =>
        unP .not (atP o258 0) fun r259 =>
        iteP r259
         (K [(.list 1 []),(I 0),(I 5),v3,v4,v5,v6,v7,v8,v9,v10,v11,v12,v13,v14,v15,v16,v17,v18,v19,v20,v21,v22,v23,v24,v25,v26,v27,v28,v29,v30,r249,v32,(atP o213 0),(atP o213 1),v35])
         (binP .add v6 (I 1) fun r260 =>
         K [r256,(atP o213 5),v2,v3,v4,v5,r260,v7,v8,v9,v10,v11,v12,v13,v14,v15,v16,v17,v18,v19,v20,v21,v22,v23,v24,v25,v26,v27,v28,v29,v30,r249,v32,(atP o213 0),(atP o213 1),v35])))
       (lenP r251 fun r261 =>
       binP .eql r261 (I 0) fun r262 =>
       iteP r262
        (call Qdn [.agg [(atP o213 3),(atP o213 4),(atP o213 5),(atP o213 6)]] fun o263 =>
        K [(.list 1 []),(I 0),(I 1),(atP o263 0),(atP o263 1),(atP o263 2),v6,v7,v8,v9,v10,v11,v12,v13,v14,v15,v16,v17,v18,v19,v20,v21,v22,v23,v24,v25,v26,v27,v28,v29,v30,r249,(atP o263 3),(atP o213 0),(atP o213 1),v35])
        (binP .eql (atP o213 4) (I 2) fun r264 =>
        iteP r264
         (K [r251,(atP o213 5),v2,v3,v4,v5,v6,v7,v8,v9,v10,v11,v12,v13,v14,v15,v16,v17,v18,v19,v20,v21,v22,v23,v24,v25,v26,v27,v28,v29,v30,r249,v32,(atP o213 0),(atP o213 1),v35])
         (K [(.list 1 []),(I 0),(I 4),v3,v4,v5,v6,v7,v8,v9,v10,v11,v12,v13,v14,v15,v16,v17,v18,v19,v20,v21,v22,v23,v24,v25,v26,v27,v28,v29,v30,r249,v32,(atP o213 0),(atP o213 1),v35]))))))∧True)∧True)∧((natP (I 1) fun n265 =>
    cutP 1 v0 (some n265) none fun r266 =>
    (unP .not (atP o213 7) fun r267 =>
    iteP r267
     (K [(.list 1 []),(I 0),(I 3),v3,v4,v5,v6,v7,v8,v9,v10,v11,v12,v13,v14,v15,v16,v17,v18,v19,v20,v21,v22,v23,v24,v25,v26,v27,v28,v29,v30,r249,v32,(atP o213 0),(atP o213 1),v35])
     (unP .not (atP o213 2) fun r268 =>
     iteP r268
      (K [(.list 1 []),(I 0),(I 2),v3,v4,v5,v6,v7,v8,v9,v10,v11,v12,v13,v14,v15,v16,v17,v18,v19,v20,v21,v22,v23,v24,v25,v26,v27,v28,v29,v30,r249,v32,(atP o213 0),(atP o213 1),v35])
      (binP .eql (atP o213 4) (I 3) fun r269 =>
      iteP r269
       (call Qdm [.one (atP o213 6)] fun o270 =>
       (flatRows r266)∧catP 1 (atP o270 0) r266 fun r271 =>
       binP .geq v6 (I 3) fun r272 =>
       iteP r272
        (K [(.list 1 []),(I 0),(I 5),v3,v4,v5,v6,v7,v8,v9,v10,v11,v12,v13,v14,v15,v16,v17,v18,v19,v20,v21,v22,v23,v24,v25,v26,v27,v28,v29,v30,r249,v32,(atP o213 0),(atP o213 1),v35])
        (call Qfo [.one r271] fun o273 =>
        unP .not (atP o273 0) fun r274 =>
        iteP r274
         (K [(.list 1 []),(I 0),(I 5),v3,v4,v5,v6,v7,v8,v9,v10,v11,v12,v13,v14,v15,v16,v17,v18,v19,v20,v21,v22,v23,v24,v25,v26,v27,v28,v29,v30,r249,v32,(atP o213 0),(atP o213 1),v35])
         (binP .add v6 (I 1) fun r275 =>
         K [r271,(atP o213 5),v2,v3,v4,v5,r275,v7,v8,v9,v10,v11,v12,v13,v14,v15,v16,v17,v18,v19,v20,v21,v22,v23,v24,v25,v26,v27,v28,v29,v30,r249,v32,(atP o213 0),(atP o213 1),v35])))
       (lenP r266 fun r276 =>
       binP .eql r276 (I 0) fun r277 =>
       iteP r277
        (call Qdn [.agg [(atP o213 3),(atP o213 4),(atP o213 5),(atP o213 6)]] fun o278 =>
        K [(.list 1 []),(I 0),(I 1),(atP o278 0),(atP o278 1),(atP o278 2),v6,v7,v8,v9,v10,v11,v12,v13,v14,v15,v16,v17,v18,v19,v20,v21,v22,v23,v24,v25,v26,v27,v28,v29,v30,r249,(atP o278 3),(atP o213 0),(atP o213 1),v35])
        (binP .eql (atP o213 4) (I 2) fun r279 =>
        iteP r279
         (K [r266,(atP o213 5),v2,v3,v4,v5,v6,v7,v8,v9,v10,v11,v12,v13,v14,v15,v16,v17,v18,v19,v20,v21,v22,v23,v24,v25,v26,v27,v28,v29,v30,r249,v32,(atP o213 0),(atP o213 1),v35])
         (K [(.list 1 []),(I 0),(I 4),v3,v4,v5,v6,v7,v8,v9,v10,v11,v12,v13,v14,v15,v16,v17,v18,v19,v20,v21,v22,v23,v24,v25,v26,v27,v28,v29,v30,r249,v32,(atP o213 0),(atP o213 1),v35]))))))∧True)∧True)∧True)∧True)∧True))∧True)∧True)∧True)∧True)∧True)
   (x0k v0 v1 v2 v3 v4 v5 v6 v7 v8 v9 v10 v11 v12 v13 v14 v15 v16 v17 v18 v19 v20 v21 v22 v23 v24 v25 v26 v27 v28 v29 v30 v31 v32 v33 v34 v35)) v
def Qki:GM
 | [.agg u0,.agg u1,.one a3,.one a4,.one a5,.one a6],k=>un 2 (fun a0 a1=>un 1 (fun a2 =>
  call Qdu [.agg [a2]] fun o0 =>
  call Qdp [.agg [a0,a1]] fun o1 =>
  call Qfo [.one a5] fun o2 =>
  unP .not (atP o2 0) fun r3 =>
  iteP r3
   (rt [.own true 90 1,.own true 259 51,.sc,.sc,.sc,.sc,.own true 9 1,.own true 3 1,.sc,.own true 221 23] [(atP o1 0),(atP o1 1),(I 6),(.str ⟨#[]⟩),(I 0),(I 0),(.list 1 []),(.list 1 []),(I 0),(atP o0 0)] k)
   (lp (fun L w=>Qki_r0 w L
    (fun q280 q281 q282 q283 q284 q285 q286 q287 q288 q289 q290 q291 q292 q293 q294 q295 q296 q297 q298 q299 q300 q301 q302 q303 q304 q305 q306 q307 q308 q309 q310 q311 q312 q313 q314 q315=>rt [.own true 90 1,.own true 259 51,.sc,.sc,.sc,.sc,.own true 9 1,.own true 3 1,.sc,.own true 221 23] [q313,q314,q282,q283,q284,q285,q312,q311,q286,q315] k)) [a5,a4,(I 0),(.str ⟨#[]⟩),(I 0),(I 0),(I 0),(I 0),(.str ⟨#[]⟩),(I 0),(I 0),(I 0),(I 0),(.str ⟨#[]⟩),(I 0),(I 0),(I 0),a6,a3,a2,a0,a1,(.list 23 []),(.list 1 []),(.list 1 []),(.list 51 []),(.list 1 []),(.list 1 []),(.list 1 []),(.list 51 []),(.list 1 []),(.list 1 []),(.list 1 []),(atP o1 0),(atP o1 1),(atP o0 0)])) u1) u0
 | _,_=>False
abbrev Qki_e:Ent:=⟨[72],Qki⟩
def Qki_l:List LE:=[⟨some (2,159),0,⟨[(2,.one zB),(3,.one (.fn 160 [.box 6,.box 2,.box 3])),(8,.one (.ptr 8 0)),(9,.one (.ptr 11 0)),(10,.one zB)],[(11,[.own 9,.own 10,zB,zB,zB,zB,.own 13,.own 14,zB]),(8,[.own 15,.own 16,zB,zB,zB,zB,.own 17,.own 18,zB]),(6,[.own 5]),(4,[.own 19,.own 20,zB,zB,zB,zB,.own 21,.own 22,zB,.own 23]),(3,[zB]),(2,[zB]),(1,[zB]),(0,[zB,zB])],[(23,⟨.deep,221,23,(.bool false)⟩),(22,⟨.deep,3,1,(.bool false)⟩),(21,⟨.deep,9,1,(.bool false)⟩),(20,⟨.deep,259,51,(.bool false)⟩),(19,⟨.deep,90,1,(.bool false)⟩),(18,⟨.deep,3,1,(.bool false)⟩),(17,⟨.deep,9,1,(.bool false)⟩),(16,⟨.deep,259,51,(.bool false)⟩),(15,⟨.deep,90,1,(.bool false)⟩),(14,⟨.deep,3,1,(.bool false)⟩),(13,⟨.deep,9,1,(.bool false)⟩),(9,⟨.deep,90,1,(.bool false)⟩),(10,⟨.deep,259,51,(.bool false)⟩),(5,⟨.deep,221,23,(.bool false)⟩)],24,48,[0,1,2,3,4,6]⟩,fun K k v=>Qki_r0 v K (fun x0 x1 x2 x3 x4 x5 x6 x7 x8 x9 x10 x11 x12 x13 x14 x15 x16 x17 x18 x19 x20 x21 x22 x23 x24 x25 x26 x27 x28 x29 x30 x31 x32 x33 x34 x35=>k (.exit 0) ⟨[(2,.one (.pv x0)),(3,.one (.fn 160 [.box 6,.box 2,.box 3])),(8,.one (.ptr 8 0)),(9,.one (.ptr 11 0)),(10,.one (.pv x1))],[(11,[.own 9,.own 10,.pv x2,.pv x3,.pv x4,.pv x5,.own 13,.own 14,.pv x6]),(8,[.own 15,.own 16,.pv x7,.pv x8,.pv x9,.pv x10,.own 17,.own 18,.pv x11]),(6,[.own 5]),(4,[.own 19,.own 20,.pv x12,.pv x13,.pv x14,.pv x15,.own 21,.own 22,.pv x16,.own 23]),(3,[.pv x17]),(2,[.pv x18]),(1,[.pv x19]),(0,[.pv x20,.pv x21])],[(23,⟨.deep,221,23,x22⟩),(22,⟨.deep,3,1,x23⟩),(21,⟨.deep,9,1,x24⟩),(20,⟨.deep,259,51,x25⟩),(19,⟨.deep,90,1,x26⟩),(18,⟨.deep,3,1,x27⟩),(17,⟨.deep,9,1,x28⟩),(16,⟨.deep,259,51,x29⟩),(15,⟨.deep,90,1,x30⟩),(14,⟨.deep,3,1,x31⟩),(13,⟨.deep,9,1,x32⟩),(9,⟨.deep,90,1,x33⟩),(10,⟨.deep,259,51,x34⟩),(5,⟨.deep,221,23,x35⟩)],24,48,[0,1,2,3,4,6]⟩)⟩]
theorem Qki_s:LEsOK [Qdu_e,Qdp_e,Qfo_e,Qkf_e,Qkg_e,Qjq_e,Qkh_e,Qdm_e,Qdn_e] TT.nofl [] Qki_l Tryz.f72 Qki_l:=⟨fun v K k h=>by
 apply un_all h;exact fun v0 v1 v2 v3 v4 v5 v6 v7 v8 v9 v10 v11 v12 v13 v14 v15 v16 v17 v18 v19 v20 v21 v22 v23 v24 v25 v26 v27 v28 v29 v30 v31 v32 v33 v34 v35 h=>km h
 ,trivial⟩
theorem Qki_w:EntOK Tryz.prog TT Qki_e:=okF_ tabok (L:=[Qdu_e,Qdp_e,Qfo_e,Qkf_e,Qkg_e,Qjq_e,Qkh_e,Qdm_e,Qdn_e]) ⟨Qdu_w,Qdp_w,Qfo_w,Qkf_w,Qkg_w,Qjq_w,Qkh_w,Qdm_w,Qdn_w,trivial⟩ (keep:=[]) (l:=Qki_l) Tryz.func72 Qki_s fun av k h=>by
 unfold Qki at h;split at h
 ·apply un_all h;clear h;intro a0 a1 h;apply un_all h;clear h;intro a2 h;exact km h
 ·exact h.elim
def Qkj:GM
 | [.agg u0,.agg u1,.one a3,.one a4,.one a5],k=>un 2 (fun a0 a1=>un 1 (fun a2 =>
  call Qki [.agg [a0,a1],.agg [a2],.one (.list 2 []),.one a3,.one a4,.one a5] fun o0 =>
  rt [.own true 90 1,.own true 259 51,.sc,.sc,.sc,.sc,.own true 9 1,.own true 3 1,.sc] [(atP o0 0),(atP o0 1),(atP o0 2),(atP o0 3),(atP o0 4),(atP o0 5),(atP o0 6),(atP o0 7),(atP o0 8)] k) u1) u0
 | _,_=>False
abbrev Qkj_e:Ent:=⟨[137],Qkj⟩
theorem Qkj_w:EntOK Tryz.prog TT Qkj_e:=okF_ tabok (L:=[Qki_e]) ⟨Qki_w,trivial⟩ (keep:=[]) (l:=[]) Tryz.func137 trivial fun av k h=>by
 unfold Qkj at h;split at h
 ·apply un_all h;clear h;intro a0 a1 h;apply un_all h;clear h;intro a2 h;exact km h
 ·exact h.elim
def Qkk:GM
 | [.agg u0,.one a3],k=>un 3 (fun a0 a1 a2 =>
  lenP a2 fun r0 =>
  binP .gtr r0 (I 16) fun r1 =>
  iteP r1
   (rt [.own true 90 1,.own true 259 51,.sc,.sc,.sc,.sc,.own true 9 1,.own true 3 1,.sc] [(.list 1 []),(.list 51 []),(I 6),(.str ⟨#[]⟩),(I 0),(I 0),(.list 1 []),(.list 1 []),(I 0)] k)
   (call Qkj [.agg [(.list 1 []),(.list 51 [])],.agg [a2],.one a0,.one a1,.one a3] fun o2 =>
   rt [.own true 90 1,.own true 259 51,.sc,.sc,.sc,.sc,.own true 9 1,.own true 3 1,.sc] [(atP o2 0),(atP o2 1),(atP o2 2),(atP o2 3),(atP o2 4),(atP o2 5),(atP o2 6),(atP o2 7),(atP o2 8)] k)) u0
 | _,_=>False
abbrev Qkk_e:Ent:=⟨[50],Qkk⟩
theorem Qkk_w:EntOK Tryz.prog TT Qkk_e:=okF_ tabok (L:=[Qkj_e]) ⟨Qkj_w,trivial⟩ (keep:=[]) (l:=[]) Tryz.func50 trivial fun av k h=>by
 unfold Qkk at h;split at h
 ·apply un_all h;clear h;intro a0 a1 a2 h;exact km h
 ·exact h.elim
def Qkl:GM
 | [.agg u0,.agg u1],k=>un 3 (fun a0 a1 a2=>un 3 (fun a3 a4 a5 =>
  binP .neq a0 a3 fun r0 =>
  iteP r0
   (rt [.sc] [(.bool false)] k)
   (call Qgp [.one a1,.one a4] fun o1 =>
   unP .not (atP o1 0) fun r2 =>
   iteP r2
    (rt [.sc] [(.bool false)] k)
    (call Qgv [.one a2,.one a5] fun o3 =>
    unP .not (atP o3 0) fun r4 =>
    iteP r4
     (rt [.sc] [(.bool false)] k)
     (rt [.sc] [(.bool true)] k)))) u1) u0
 | _,_=>False
abbrev Qkl_e:Ent:=⟨[14],Qkl⟩
theorem Qkl_w:EntOK Tryz.prog TT Qkl_e:=okF_ tabok (L:=[Qgp_e,Qgv_e]) ⟨Qgp_w,Qgv_w,trivial⟩ (keep:=[]) (l:=[]) Tryz.func14 trivial fun av k h=>by
 unfold Qkl at h;split at h
 ·apply un_all h;clear h;intro a0 a1 a2 h;apply un_all h;clear h;intro a3 a4 a5 h;exact km h
 ·exact h.elim
def Qkm:GM
 | [.agg u0,.one a3],k=>un 3 (fun a0 a1 a2 =>
  call Qkb [.agg [a0,a1,a2],.one a3] fun o0 =>
  binP .eql (atP o0 2) (I 1) fun r1 =>
  iteP r1
   (rt [.sc] [(.bool true)] k)
   (binP .eql (atP o0 2) (I 2) fun r2 =>
   rt [.sc] [r2] k)) u0
 | _,_=>False
abbrev Qkm_e:Ent:=⟨[11],Qkm⟩
theorem Qkm_w:EntOK Tryz.prog TT Qkm_e:=ok_ tabok (L:=[Qkb_e]) ⟨Qkb_w,trivial⟩ (keep:=[]) (l:=[]) Tryz.func11 trivial fun av k h=>by
 unfold Qkm at h;split at h
 ·apply un_all h;clear h;intro a0 a1 a2 h;exact km h
 ·exact h.elim
def Qkn:GM
 | [.one a0],k =>
  binP .eql a0 (I 1) fun r0 =>
  iteP r0
   (rt [.sc] [(.bool true)] k)
   (binP .eql a0 (I 2) fun r1 =>
   rt [.sc] [r1] k)
 | _,_=>False
abbrev Qkn_e:Ent:=⟨[66],Qkn⟩
theorem Qkn_w:EntOK Tryz.prog TT Qkn_e:=okF_ tabok (L:=[]) trivial (keep:=[]) (l:=[]) Tryz.func66 trivial fun av k h=>by
 unfold Qkn at h;split at h
 ·exact km h
 ·exact h.elim
def Qko:GM
 | [.agg u0,.one a3],k=>un 3 (fun a0 a1 a2 =>
  call Qkk [.agg [a0,a1,a2],.one a3] fun o0 =>
  call Qkn [.one (atP o0 2)] fun o1 =>
  rt [.sc] [(atP o1 0)] k) u0
 | _,_=>False
abbrev Qko_e:Ent:=⟨[13],Qko⟩
theorem Qko_w:EntOK Tryz.prog TT Qko_e:=okF_ tabok (L:=[Qkk_e,Qkn_e]) ⟨Qkk_w,Qkn_w,trivial⟩ (keep:=[]) (l:=[]) Tryz.func13 trivial fun av k h=>by
 unfold Qko at h;split at h
 ·apply un_all h;clear h;intro a0 a1 a2 h;exact km h
 ·exact h.elim
def laws_FnExactIsBundle:GM
 | [.agg u0,.one a3],k=>un 3 (fun a0 a1 a2 =>
  call Qjr [.agg [a0,a1,a2],.one (I 1048576)] fun o0 =>
  binP .lss (atP o0 0) (I 0) fun r1 =>
  iteP r1
   (rt [.sc] [(.bool true)] k)
   (call Qjs [.agg [a0,a1,a2]] fun o2 =>
   call Qkm [.agg [(atP o2 0),(atP o2 1),(atP o2 2)],.one a3] fun o3 =>
   call Qjs [.agg [a0,a1,a2]] fun o4 =>
   call Qko [.agg [(atP o4 0),(atP o4 1),(atP o4 2)],.one a3] fun o5 =>
   boolP .neq (atP o5 0) (atP o3 0) fun r6 =>
   iteP r6
    (rt [.sc] [(.bool false)] k)
    (call Qjs [.agg [a0,a1,a2]] fun o7 =>
    call Qkl [.agg [(atP o4 0),(atP o4 1),(atP o4 2)],.agg [(atP o7 0),(atP o7 1),(atP o7 2)]] fun o8 =>
    unP .not (atP o8 0) fun r9 =>
    iteP r9
     (rt [.sc] [(.bool false)] k)
     (rt [.sc] [(.bool true)] k)))) u0
 | _,_=>False
abbrev laws_FnExactIsBundle_e:Ent:=⟨[3],laws_FnExactIsBundle⟩
theorem laws_FnExactIsBundle_w:EntOK Tryz.prog TT laws_FnExactIsBundle_e:=okF_ tabok (L:=[Qjr_e,Qjs_e,Qkm_e,Qko_e,Qkl_e]) ⟨Qjr_w,Qjs_w,Qkm_w,Qko_w,Qkl_w,trivial⟩ (keep:=[]) (l:=[]) Tryz.func3 trivial fun av k h=>by
 unfold laws_FnExactIsBundle at h;split at h
 ·apply un_all h;clear h;intro a0 a1 a2 h;exact km h
 ·exact h.elim
end Go.Ev
