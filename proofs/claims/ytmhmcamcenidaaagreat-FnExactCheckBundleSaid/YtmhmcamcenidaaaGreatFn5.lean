/- For each function the meaning that the evaluator gives it, proved, part 5. -/
import Derived.Test.YtmhmcamcenidaaaGreatFn4
set_option linter.unusedVariables false
set_option linter.unusedSimpArgs false
set_option maxRecDepth 100000
namespace Go.Ev
open Go.Proofs Go.Proofs.Tryz
def Qkv_r0 (v:List PV) (K:List PV→Prop) (x0k:Cur 36):Prop :=
 un 36 (fun v0 v1 v2 v3 v4 v5 v6 v7 v8 v9 v10 v11 v12 v13 v14 v15 v16 v17 v18 v19 v20 v21 v22 v23 v24 v25 v26 v27 v28 v29 v30 v31 v32 v33 v34 v35 =>
  let F0:=fun (o5:List PV) (r10:PV) (o9:List PV) (r12:PV)=>unP .not (atP o5 7) fun r13 =>
   xad r13
   (K [(.list 1 []),(I 0),(I 3),v3,v4,v5,v6,v7,v8,v9,v10,v11,v12,v13,v14,v15,v16,v17,v18,v19,v20,v21,v22,v23,v24,v25,v26,v27,v28,v29,v30,r10,v32,(atP o5 0),(atP o5 1),(atP o9 0)])
   (unP .not (atP o5 2) fun r14 =>
   xad r14
   (K [(.list 1 []),(I 0),(I 2),v3,v4,v5,v6,v7,v8,v9,v10,v11,v12,v13,v14,v15,v16,v17,v18,v19,v20,v21,v22,v23,v24,v25,v26,v27,v28,v29,v30,r10,v32,(atP o5 0),(atP o5 1),(atP o9 0)])
   (xac .eql (atP o5 4) (I 3) fun r15 =>
   xad r15
   (call Qdn [.one (atP o5 6)] fun o16 =>
   (xaZ r12)∧xbd 1 (atP o16 0) r12 fun r17 =>
   xac .geq v6 (I 3) fun r18 =>
   xad r18
   (K [(.list 1 []),(I 0),(I 5),v3,v4,v5,v6,v7,v8,v9,v10,v11,v12,v13,v14,v15,v16,v17,v18,v19,v20,v21,v22,v23,v24,v25,v26,v27,v28,v29,v30,r10,v32,(atP o5 0),(atP o5 1),(atP o9 0)])
   (call Qfp [.one r17] fun o19 =>
   unP .not (atP o19 0) fun r20 =>
   xad r20
   (K [(.list 1 []),(I 0),(I 5),v3,v4,v5,v6,v7,v8,v9,v10,v11,v12,v13,v14,v15,v16,v17,v18,v19,v20,v21,v22,v23,v24,v25,v26,v27,v28,v29,v30,r10,v32,(atP o5 0),(atP o5 1),(atP o9 0)])
   (xac .add v6 (I 1) fun r21 =>
   K [r17,(atP o5 5),v2,v3,v4,v5,r21,v7,v8,v9,v10,v11,v12,v13,v14,v15,v16,v17,v18,v19,v20,v21,v22,v23,v24,v25,v26,v27,v28,v29,v30,r10,v32,(atP o5 0),(atP o5 1),(atP o9 0)])))
   (xaH r12 fun r22 =>
   xac .eql r22 (I 0) fun r23 =>
   xad r23
   (call Qdo [.agg [(atP o5 3),(atP o5 4),(atP o5 5),(atP o5 6)]] fun o24 =>
   K [(.list 1 []),(I 0),(I 1),(atP o24 0),(atP o24 1),(atP o24 2),v6,v7,v8,v9,v10,v11,v12,v13,v14,v15,v16,v17,v18,v19,v20,v21,v22,v23,v24,v25,v26,v27,v28,v29,v30,r10,(atP o24 3),(atP o5 0),(atP o5 1),(atP o9 0)])
   (xac .eql (atP o5 4) (I 2) fun r25 =>
   xad r25
   (K [r12,(atP o5 5),v2,v3,v4,v5,v6,v7,v8,v9,v10,v11,v12,v13,v14,v15,v16,v17,v18,v19,v20,v21,v22,v23,v24,v25,v26,v27,v28,v29,v30,r10,v32,(atP o5 0),(atP o5 1),(atP o9 0)])
   (K [(.list 1 []),(I 0),(I 4),v3,v4,v5,v6,v7,v8,v9,v10,v11,v12,v13,v14,v15,v16,v17,v18,v19,v20,v21,v22,v23,v24,v25,v26,v27,v28,v29,v30,r10,v32,(atP o5 0),(atP o5 1),(atP o9 0)])))))
  let F1:=fun (o5:List PV) (r41:PV) (r43:PV)=>unP .not (atP o5 7) fun r44 =>
   xad r44
   (K [(.list 1 []),(I 0),(I 3),v3,v4,v5,v6,v7,v8,v9,v10,v11,v12,v13,v14,v15,v16,v17,v18,v19,v20,v21,v22,v23,v24,v25,v26,v27,v28,v29,v30,r41,v32,(atP o5 0),(atP o5 1),v35])
   (unP .not (atP o5 2) fun r45 =>
   xad r45
   (K [(.list 1 []),(I 0),(I 2),v3,v4,v5,v6,v7,v8,v9,v10,v11,v12,v13,v14,v15,v16,v17,v18,v19,v20,v21,v22,v23,v24,v25,v26,v27,v28,v29,v30,r41,v32,(atP o5 0),(atP o5 1),v35])
   (xac .eql (atP o5 4) (I 3) fun r46 =>
   xad r46
   (call Qdn [.one (atP o5 6)] fun o47 =>
   (xaZ r43)∧xbd 1 (atP o47 0) r43 fun r48 =>
   xac .geq v6 (I 3) fun r49 =>
   xad r49
   (K [(.list 1 []),(I 0),(I 5),v3,v4,v5,v6,v7,v8,v9,v10,v11,v12,v13,v14,v15,v16,v17,v18,v19,v20,v21,v22,v23,v24,v25,v26,v27,v28,v29,v30,r41,v32,(atP o5 0),(atP o5 1),v35])
   (call Qfp [.one r48] fun o50 =>
   unP .not (atP o50 0) fun r51 =>
   xad r51
   (K [(.list 1 []),(I 0),(I 5),v3,v4,v5,v6,v7,v8,v9,v10,v11,v12,v13,v14,v15,v16,v17,v18,v19,v20,v21,v22,v23,v24,v25,v26,v27,v28,v29,v30,r41,v32,(atP o5 0),(atP o5 1),v35])
   (xac .add v6 (I 1) fun r52 =>
   K [r48,(atP o5 5),v2,v3,v4,v5,r52,v7,v8,v9,v10,v11,v12,v13,v14,v15,v16,v17,v18,v19,v20,v21,v22,v23,v24,v25,v26,v27,v28,v29,v30,r41,v32,(atP o5 0),(atP o5 1),v35])))
   (xaH r43 fun r53 =>
   xac .eql r53 (I 0) fun r54 =>
   xad r54
   (call Qdo [.agg [(atP o5 3),(atP o5 4),(atP o5 5),(atP o5 6)]] fun o55 =>
   K [(.list 1 []),(I 0),(I 1),(atP o55 0),(atP o55 1),(atP o55 2),v6,v7,v8,v9,v10,v11,v12,v13,v14,v15,v16,v17,v18,v19,v20,v21,v22,v23,v24,v25,v26,v27,v28,v29,v30,r41,(atP o55 3),(atP o5 0),(atP o5 1),v35])
   (xac .eql (atP o5 4) (I 2) fun r56 =>
   xad r56
   (K [r43,(atP o5 5),v2,v3,v4,v5,v6,v7,v8,v9,v10,v11,v12,v13,v14,v15,v16,v17,v18,v19,v20,v21,v22,v23,v24,v25,v26,v27,v28,v29,v30,r41,v32,(atP o5 0),(atP o5 1),v35])
   (K [(.list 1 []),(I 0),(I 4),v3,v4,v5,v6,v7,v8,v9,v10,v11,v12,v13,v14,v15,v16,v17,v18,v19,v20,v21,v22,v23,v24,v25,v26,v27,v28,v29,v30,r41,v32,(atP o5 0),(atP o5 1),v35])))))
  let F5:=fun (o144:List PV) (o148:List PV)=>(1=1)∧(1≤16777216)∧(1=1)∧(0=0)∧(1=1)∧(xae [.pv (I 0)] [.pv v1])∧xbd 1 v31 (.list 1 [[v1]]) fun r149 =>
   xg6 (I 1) fun n150 =>
   xf8 1 v0 (some n150) none fun r151 =>
   (((F0 o144 r149 o148 r151)∧True)∧True)∧((xg6 (I 1) fun n165 =>
   xf8 1 v0 (some n165) none fun r166 =>
   (F0 o144 r149 o148 r166)∧True)∧True)∧True
  let F4:=fun (o144:List PV)=>((1=1)∧(1≤16777216)∧(1=1)∧(0=0)∧(1=1)∧(xae [.pv (I 0)] [.pv v1])∧xbd 1 v31 (.list 1 [[v1]]) fun r180 =>
   xg6 (I 1) fun n181 =>
   xf8 1 v0 (some n181) none fun r182 =>
   (((F1 o144 r180 r182)∧True)∧True)∧((xg6 (I 1) fun n196 =>
   xf8 1 v0 (some n196) none fun r197 =>
   (F1 o144 r180 r197)∧True)∧True)∧True)∧True
  let F2:=fun (o141:List PV) (o142:List PV) (c1:List PV)=>xbd 21 (.list 21 [[(atP o141 0),(atP o141 1),(atP o141 2),(atP o141 3),(atP o141 4),(atP o141 5),(atP o141 6),(atP o141 7),(atP o141 8),(atP o141 9),(atP o141 10),(atP o141 11),(atP o141 12),(atP o141 13),(atP o141 14),(atP o141 15),(atP o141 16),(atP o141 17),(atP o141 18),(atP o141 19),(atP o141 20)]]) (atP o142 0) fun r143 =>
   (call Qkc [.agg [v33,v34],.one r143,.one v1,.one (atP c1 0),.one v17] fun o144 =>
   xac .geq (atP o144 9) (I 0) fun r145 =>
   xad r145
   (xdm 21 r143 (atP o144 9) fun n146 =>
   xp1 21 r143 n146 fun c147 =>
   call Qku [.agg [v35],.one v1,.one (atP c1 0),.agg [(atP c147 0),(atP c147 1),(atP c147 2),(atP c147 3),(atP c147 4),(atP c147 5),(atP c147 6),(atP c147 7),(atP c147 8),(atP c147 9),(atP c147 10),(atP c147 11),(atP c147 12),(atP c147 13),(atP c147 14),(atP c147 15),(atP c147 16),(atP c147 17),(atP c147 18),(atP c147 19),(atP c147 20)],.one v17] fun o148 =>
   ((F5 o144 o148)∧True)∧True)
   ((F4 o144)∧True))∧True
  let F3:=fun (o2:List PV) (o3:List PV) (c1:List PV)=>xbd 21 (.list 21 [[(atP o2 0),(atP o2 1),(atP o2 2),(atP o2 3),(atP o2 4),(atP o2 5),(atP o2 6),(atP o2 7),(atP o2 8),(atP o2 9),(atP o2 10),(atP o2 11),(atP o2 12),(atP o2 13),(atP o2 14),(atP o2 15),(atP o2 16),(atP o2 17),(atP o2 18),(atP o2 19),(atP o2 20)]]) (atP o3 0) fun r4 =>
   (call Qkc [.agg [v33,v34],.one r4,.one v1,.one (atP c1 0),.one v17] fun o5 =>
   xac .geq (atP o5 9) (I 0) fun r6 =>
   xad r6
   (xdm 21 r4 (atP o5 9) fun n7 =>
   xp1 21 r4 n7 fun c8 =>
   call Qku [.agg [v35],.one v1,.one (atP c1 0),.agg [(atP c8 0),(atP c8 1),(atP c8 2),(atP c8 3),(atP c8 4),(atP c8 5),(atP c8 6),(atP c8 7),(atP c8 8),(atP c8 9),(atP c8 10),(atP c8 11),(atP c8 12),(atP c8 13),(atP c8 14),(atP c8 15),(atP c8 16),(atP c8 17),(atP c8 18),(atP c8 19),(atP c8 20)],.one v17] fun o9 =>
   (F5 o5 o9)∧True)
   (F4 o5))∧True
  xac .eql v2 (I 0) fun r0 =>
  xad r0
   (xaj 1 v0 (I 0) fun c1 =>
   ((call Qks [.agg [v35],.one v1,.one (atP c1 0)] fun o2 =>
   call Qkt [.one v18,.one v1,.one (atP c1 0)] fun o3 =>
   (((1=1)∧(21≤16777216)∧(21=21)∧(0=0)∧(21=21)∧(xae [.nil 257 17,zB,.pv (.str ⟨#[]⟩),.pv (I 0),.pv (I 0),.nil 9 1,.pv (I 0),.nil 3 1,.pv (I 0),.pv (.str ⟨#[]⟩),.pv (I 0),.pv (I 0),.nil 9 1,.pv (.str ⟨#[]⟩),.pv (I 0),.pv (I 0),.nil 9 1,.pv (I 0),.nil 3 1,.pv (I 0),.nil 3 1] [.own 27,.pv (atP o2 1),.pv (atP o2 2),.pv (atP o2 3),.pv (atP o2 4),.own 32,.pv (atP o2 6),.own 34,.pv (atP o2 8),.pv (atP o2 9),.pv (atP o2 10),.pv (atP o2 11),.own 39,.pv (atP o2 13),.pv (atP o2 14),.pv (atP o2 15),.own 43,.pv (atP o2 17),.own 45,.pv (atP o2 19),.own 47])∧(F3 o2 o3 c1)∧True)∧True)∧((1=1)∧(21≤16777216)∧(21=21)∧(0=0)∧(21=21)∧(xae [.nil 257 17,zB,.pv (.str ⟨#[]⟩),.pv (I 0),.pv (I 0),.nil 9 1,.pv (I 0),.nil 3 1,.pv (I 0),.pv (.str ⟨#[]⟩),.pv (I 0),.pv (I 0),.nil 9 1,.pv (.str ⟨#[]⟩),.pv (I 0),.pv (I 0),.nil 9 1,.pv (I 0),.nil 3 1,.pv (I 0),.nil 3 1] [.own 27,.pv (atP o2 1),.pv (atP o2 2),.pv (atP o2 3),.pv (atP o2 4),.own 32,.pv (atP o2 6),.own 34,.pv (atP o2 8),.pv (atP o2 9),.pv (atP o2 10),.pv (atP o2 11),.own 39,.pv (atP o2 13),.pv (atP o2 14),.pv (atP o2 15),.own 43,.pv (atP o2 17),.own 45,.pv (atP o2 19),.own 47])∧(call Qkt [.one v18,.one v1,.one (atP c1 0)] fun o72 =>
   (F3 o2 o72 c1)∧True)∧True)∧True)∧True)∧(call Qks [.agg [v35],.one v1,.one (atP c1 0)] fun o141 =>
   call Qkt [.one v18,.one v1,.one (atP c1 0)] fun o142 =>
   (((1=1)∧(21≤16777216)∧(21=21)∧(0=0)∧(21=21)∧(xae [.nil 257 17,zB,.pv (.str ⟨#[]⟩),.pv (I 0),.pv (I 0),.nil 9 1,.pv (I 0),.nil 3 1,.pv (I 0),.pv (.str ⟨#[]⟩),.pv (I 0),.pv (I 0),.nil 9 1,.pv (.str ⟨#[]⟩),.pv (I 0),.pv (I 0),.nil 9 1,.pv (I 0),.nil 3 1,.pv (I 0),.nil 3 1] [.own 27,.pv (atP o141 1),.pv (atP o141 2),.pv (atP o141 3),.pv (atP o141 4),.own 32,.pv (atP o141 6),.own 34,.pv (atP o141 8),.pv (atP o141 9),.pv (atP o141 10),.pv (atP o141 11),.own 39,.pv (atP o141 13),.pv (atP o141 14),.pv (atP o141 15),.own 43,.pv (atP o141 17),.own 45,.pv (atP o141 19),.own 47])∧(F2 o141 o142 c1)∧True)∧True)∧((1=1)∧(21≤16777216)∧(21=21)∧(0=0)∧(21=21)∧(xae [.nil 257 17,zB,.pv (.str ⟨#[]⟩),.pv (I 0),.pv (I 0),.nil 9 1,.pv (I 0),.nil 3 1,.pv (I 0),.pv (.str ⟨#[]⟩),.pv (I 0),.pv (I 0),.nil 9 1,.pv (.str ⟨#[]⟩),.pv (I 0),.pv (I 0),.nil 9 1,.pv (I 0),.nil 3 1,.pv (I 0),.nil 3 1] [.own 27,.pv (atP o141 1),.pv (atP o141 2),.pv (atP o141 3),.pv (atP o141 4),.own 32,.pv (atP o141 6),.own 34,.pv (atP o141 8),.pv (atP o141 9),.pv (atP o141 10),.pv (atP o141 11),.own 39,.pv (atP o141 13),.pv (atP o141 14),.pv (atP o141 15),.own 43,.pv (atP o141 17),.own 45,.pv (atP o141 19),.own 47])∧(call Qkt [.one v18,.one v1,.one (atP c1 0)] fun o211 =>
   (F2 o141 o211 c1)∧True)∧True)∧True)∧True)
   (x0k v0 v1 v2 v3 v4 v5 v6 v7 v8 v9 v10 v11 v12 v13 v14 v15 v16 v17 v18 v19 v20 v21 v22 v23 v24 v25 v26 v27 v28 v29 v30 v31 v32 v33 v34 v35)) v
def Qkv:GM
 | [.agg u0,.agg u1,.one a3,.one a4,.one a5,.one a6],k=>un 2 (fun a0 a1=>un 1 (fun a2 =>
  call Qdv [.agg [a2]] fun o0 =>
  call Qdq [.agg [a0,a1]] fun o1 =>
  call Qfp [.one a5] fun o2 =>
  unP .not (atP o2 0) fun r3 =>
  xad r3
   (rt g27 [(atP o1 0),(atP o1 1),(I 6),(.str ⟨#[]⟩),(I 0),(I 0),(.list 1 []),(.list 1 []),(I 0),(atP o0 0)] k)
   (lp (fun L w=>Qkv_r0 w L
    (fun q280 q281 q282 q283 q284 q285 q286 q287 q288 q289 q290 q291 q292 q293 q294 q295 q296 q297 q298 q299 q300 q301 q302 q303 q304 q305 q306 q307 q308 q309 q310 q311 q312 q313 q314 q315=>rt g27 [q313,q314,q282,q283,q284,q285,q312,q311,q286,q315] k)) [a5,a4,(I 0),(.str ⟨#[]⟩),(I 0),(I 0),(I 0),(I 0),(.str ⟨#[]⟩),(I 0),(I 0),(I 0),(I 0),(.str ⟨#[]⟩),(I 0),(I 0),(I 0),a6,a3,a2,a0,a1,(.list 23 []),(.list 1 []),(.list 1 []),(.list 51 []),(.list 1 []),(.list 1 []),(.list 1 []),(.list 51 []),(.list 1 []),(.list 1 []),(.list 1 []),(atP o1 0),(atP o1 1),(atP o0 0)])) u1) u0
 | _,_=>False
def Qkv_l:List LE:=[⟨some (2,159),0,⟨[(2,.one zB),(3,.one (.fn 160 [.box 6,.box 2,.box 3])),(8,.one (.ptr 8 0)),(9,.one (.ptr 11 0)),(10,.one zB)],[(11,[.own 9,.own 10,zB,zB,zB,zB,.own 13,.own 14,zB]),(8,[.own 15,.own 16,zB,zB,zB,zB,.own 17,.own 18,zB]),(6,[.own 5]),(4,[.own 19,.own 20,zB,zB,zB,zB,.own 21,.own 22,zB,.own 23]),(3,[zB]),(2,[zB]),(1,[zB]),(0,[zB,zB])],[(23,⟨.deep,221,23,(.bool false)⟩),(22,⟨.deep,3,1,(.bool false)⟩),(21,⟨.deep,9,1,(.bool false)⟩),(20,⟨.deep,259,51,(.bool false)⟩),(19,⟨.deep,90,1,(.bool false)⟩),(18,⟨.deep,3,1,(.bool false)⟩),(17,⟨.deep,9,1,(.bool false)⟩),(16,⟨.deep,259,51,(.bool false)⟩),(15,⟨.deep,90,1,(.bool false)⟩),(14,⟨.deep,3,1,(.bool false)⟩),(13,⟨.deep,9,1,(.bool false)⟩),(9,⟨.deep,90,1,(.bool false)⟩),(10,⟨.deep,259,51,(.bool false)⟩),(5,⟨.deep,221,23,(.bool false)⟩)],24,48,[0,1,2,3,4,6]⟩,fun K k v=>Qkv_r0 v K (fun x0 x1 x2 x3 x4 x5 x6 x7 x8 x9 x10 x11 x12 x13 x14 x15 x16 x17 x18 x19 x20 x21 x22 x23 x24 x25 x26 x27 x28 x29 x30 x31 x32 x33 x34 x35=>k (.exit 0) ⟨[(2,.one (.pv x0)),(3,.one (.fn 160 [.box 6,.box 2,.box 3])),(8,.one (.ptr 8 0)),(9,.one (.ptr 11 0)),(10,.one (.pv x1))],[(11,[.own 9,.own 10,.pv x2,.pv x3,.pv x4,.pv x5,.own 13,.own 14,.pv x6]),(8,[.own 15,.own 16,.pv x7,.pv x8,.pv x9,.pv x10,.own 17,.own 18,.pv x11]),(6,[.own 5]),(4,[.own 19,.own 20,.pv x12,.pv x13,.pv x14,.pv x15,.own 21,.own 22,.pv x16,.own 23]),(3,[.pv x17]),(2,[.pv x18]),(1,[.pv x19]),(0,[.pv x20,.pv x21])],[(23,⟨.deep,221,23,x22⟩),(22,⟨.deep,3,1,x23⟩),(21,⟨.deep,9,1,x24⟩),(20,⟨.deep,259,51,x25⟩),(19,⟨.deep,90,1,x26⟩),(18,⟨.deep,3,1,x27⟩),(17,⟨.deep,9,1,x28⟩),(16,⟨.deep,259,51,x29⟩),(15,⟨.deep,90,1,x30⟩),(14,⟨.deep,3,1,x31⟩),(13,⟨.deep,9,1,x32⟩),(9,⟨.deep,90,1,x33⟩),(10,⟨.deep,259,51,x34⟩),(5,⟨.deep,221,23,x35⟩)],24,48,[0,1,2,3,4,6]⟩)⟩]
theorem Qkv_s:xaC [⟨[158],Qdv⟩,⟨[198],Qdq⟩,⟨[225],Qfp⟩,⟨[161],Qks⟩,⟨[162],Qkt⟩,⟨[163],Qkc⟩,⟨[164],Qku⟩,⟨[73],Qdn⟩,⟨[229],Qdo⟩] TT.nofl [] Qkv_l f72 Qkv_l:=⟨fun v K k h=>by
 apply xab h;(repeat intro _);rename_i h;exact km h
 ,trivial⟩
theorem Qkv_w:EO ⟨[72],Qkv⟩:=oF (ec Qdv_w (ec Qdq_w (ec Qfp_w (ec Qks_w (ec Qkt_w (ec Qkc_w (ec Qku_w (ec Qdn_w (ec Qdo_w en))))))))) (keep:=[]) (l:=Qkv_l) func72 Qkv_s fun av k h=>by
 unfold Qkv at h;split at h
 ·apply xab h;clear h;intro a0 a1 h;apply xab h;clear h;intro a2 h;exact km h
 ·exact h.elim
def Qkw:GM
 | [.agg u0,.agg u1,.one a3,.one a4,.one a5],k=>un 2 (fun a0 a1=>un 1 (fun a2 =>
  call Qkv [.agg [a0,a1],.agg [a2],.one (.list 2 []),.one a3,.one a4,.one a5] fun o0 =>
  rt g13 (s9 o0) k) u1) u0
 | _,_=>False
theorem Qkw_w:EO ⟨[137],Qkw⟩:=oFz (ec Qkv_w en) func137 fun av k h=>by
 unfold Qkw at h;split at h
 ·apply xab h;clear h;intro a0 a1 h;apply xab h;clear h;intro a2 h;exact km h
 ·exact h.elim
def Qkx:GM
 | [.agg u0,.one a3],k=>un 3 (fun a0 a1 a2 =>
  xaH a2 fun r0 =>
  xac .gtr r0 (I 16) fun r1 =>
  xad r1
   (rt g13 [(.list 1 []),(.list 51 []),(I 6),(.str ⟨#[]⟩),(I 0),(I 0),(.list 1 []),(.list 1 []),(I 0)] k)
   (call Qkw [.agg [(.list 1 []),(.list 51 [])],.agg [a2],.one a0,.one a1,.one a3] fun o2 =>
   rt g13 (s9 o2) k)) u0
 | _,_=>False
theorem Qkx_w:EO ⟨[50],Qkx⟩:=oFz (ec Qkw_w en) func50 fun av k h=>by
 unfold Qkx at h;split at h
 ·apply xab h;clear h;intro a0 a1 a2 h;exact km h
 ·exact h.elim
def Qky:GM
 | [.agg u0,.agg u1],k=>un 9 (fun a0 a1 a2 a3 a4 a5 a6 a7 a8=>un 9 (fun a9 a10 a11 a12 a13 a14 a15 a16 a17 =>
  call Qgv [.agg [a0,a1],.agg [a9,a10]] fun o0 =>
  unP .not (atP o0 0) fun r1 =>
  xad r1
   (rt [.sc] [(.bool false)] k)
   (xac .neq a2 a11 fun r2 =>
   xad r2
    (rt [.sc] [(.bool false)] k)
    (call Qgr [.agg [a3,a4,a5,a6],.agg [a12,a13,a14,a15]] fun o3 =>
    unP .not (atP o3 0) fun r4 =>
    xad r4
     (rt [.sc] [(.bool false)] k)
     (call Qgj [.one a7,.one a16] fun o5 =>
     unP .not (atP o5 0) fun r6 =>
     xad r6
      (rt [.sc] [(.bool false)] k)
      (xac .neq a8 a17 fun r7 =>
      xad r7
       (rt [.sc] [(.bool false)] k)
       (rt [.sc] [(.bool true)] k)))))) u1) u0
 | _,_=>False
theorem Qky_w:EO ⟨[51],Qky⟩:=oFz (ec Qgv_w (ec Qgr_w (ec Qgj_w en))) func51 fun av k h=>by
 unfold Qky at h;split at h
 ·apply xab h;clear h;(repeat intro _);rename_i h;apply xab h;clear h;(repeat intro _);rename_i h;exact km h
 ·exact h.elim
def Qkz:GM
 | [.agg u0,.agg u1],k=>un 3 (fun a0 a1 a2=>un 3 (fun a3 a4 a5 =>
  xac .neq a0 a3 fun r0 =>
  xad r0
   (rt [.sc] [(.bool false)] k)
   (call Qgq [.one a1,.one a4] fun o1 =>
   unP .not (atP o1 0) fun r2 =>
   xad r2
    (rt [.sc] [(.bool false)] k)
    (call Qha [.one a2,.one a5] fun o3 =>
    unP .not (atP o3 0) fun r4 =>
    xad r4
     (rt [.sc] [(.bool false)] k)
     (rt [.sc] [(.bool true)] k)))) u1) u0
 | _,_=>False
theorem Qkz_w:EO ⟨[14],Qkz⟩:=oFz (ec Qgq_w (ec Qha_w en)) func14 fun av k h=>by
 unfold Qkz at h;split at h
 ·apply xab h;clear h;intro a0 a1 a2 h;apply xab h;clear h;intro a3 a4 a5 h;exact km h
 ·exact h.elim
def Qla:GM
 | [.agg u0,.one a9],k=>un 9 (fun a0 a1 a2 a3 a4 a5 a6 a7 a8 =>
  call Qhh [.agg [a0,a1],.one a9] fun o0 =>
  xac .lss (atP o0 0) (I 0) fun r1 =>
  xad r1
   (rt [.sc] [(I (-1))] k)
   (call Qkd [.agg [a3,a4,a5,a6],.one (atP o0 0)] fun o2 =>
   xac .lss (atP o2 0) (I 0) fun r3 =>
   xad r3
    (rt [.sc] [(I (-1))] k)
    (call Qhb [.one a7,.one (atP o2 0)] fun o4 =>
    xac .lss (atP o4 0) (I 0) fun r5 =>
    xad r5
     (rt [.sc] [(I (-1))] k)
     (rt [.sc] [(atP o4 0)] k)))) u0
 | _,_=>False
theorem Qla_w:EO ⟨[53],Qla⟩:=oFz (ec Qhh_w (ec Qkd_w (ec Qhb_w en))) func53 fun av k h=>by
 unfold Qla at h;split at h
 ·apply xab h;clear h;(repeat intro _);rename_i h;exact km h
 ·exact h.elim
def laws_FnExactCheckBundle:GM
 | [.agg u0,.one a3],k=>un 3 (fun a0 a1 a2 =>
  call Qke [.agg [a0,a1,a2],.one (I 1048576)] fun o0 =>
  xac .lss (atP o0 0) (I 0) fun r1 =>
  xad r1
   (rt [.sc] [(.bool true)] k)
   (call Qkf [.agg [a0,a1,a2]] fun o2 =>
   call Qko [.agg [(atP o2 0),(atP o2 1),(atP o2 2)],.one a3] fun o3 =>
   call Qkf [.agg [a0,a1,a2]] fun o4 =>
   call Qkx [.agg [(atP o4 0),(atP o4 1),(atP o4 2)],.one a3] fun o5 =>
   call Qky [.agg [(atP o5 0),(atP o5 1),(atP o5 2),(atP o5 3),(atP o5 4),(atP o5 5),(atP o5 6),(atP o5 7),(atP o5 8)],.agg [(atP o3 0),(atP o3 1),(atP o3 2),(atP o3 3),(atP o3 4),(atP o3 5),(atP o3 6),(atP o3 7),(atP o3 8)]] fun o6 =>
   unP .not (atP o6 0) fun r7 =>
   xad r7
    (rt [.sc] [(.bool false)] k)
    (call Qkf [.agg [a0,a1,a2]] fun o8 =>
    call Qkz [.agg [(atP o4 0),(atP o4 1),(atP o4 2)],.agg [(atP o8 0),(atP o8 1),(atP o8 2)]] fun o9 =>
    unP .not (atP o9 0) fun r10 =>
    xad r10
     (rt [.sc] [(.bool false)] k)
     ((xae [.pv (I 0),.nil 9 1,.nil 221 23] [.pv (atP o4 0),.own 16,.own 17])∧call laws_markBundle [.agg [(atP o4 0),(atP o4 1),(atP o4 2)],.one (I 1)] fun o11 =>
     xac .lss (atP o11 3) (I 0) fun r12 =>
     xad r12
      (rt [.sc] [(.bool false)] k)
      (call Qky [.agg [(atP o5 0),(atP o5 1),(atP o5 2),(atP o5 3),(atP o5 4),(atP o5 5),(atP o5 6),(atP o5 7),(atP o5 8)],.agg [(atP o3 0),(atP o3 1),(atP o3 2),(atP o3 3),(atP o3 4),(atP o3 5),(atP o3 6),(atP o3 7),(atP o3 8)]] fun o13 =>
      unP .not (atP o13 0) fun r14 =>
      xad r14
       (rt [.sc] [(.bool false)] k)
       ((xae [.nil 90 1,.nil 259 51,.pv (I 0),.pv (.str ⟨#[]⟩),.pv (I 0),.pv (I 0),.nil 9 1,.nil 3 1,.pv (I 0)] [.own 19,.own 20,.pv (atP o5 2),.pv (atP o5 3),.pv (atP o5 4),.pv (atP o5 5),.own 25,.own 26,.pv (atP o5 8)])∧call laws_markTrace [.agg [(atP o5 0),(atP o5 1),(atP o5 2),(atP o5 3),(atP o5 4),(atP o5 5),(atP o5 6),(atP o5 7),(atP o5 8)],.one (I 1)] fun o15 =>
       call Qla [.agg [(atP o15 0),(atP o15 1),(atP o5 2),(atP o5 3),(atP o5 4),(atP o5 5),(atP o15 6),(atP o15 7),(atP o5 8)],.one (I 1)] fun o16 =>
       xac .lss (atP o16 0) (I 0) fun r17 =>
       xad r17
        (rt [.sc] [(.bool false)] k)
        (xac .neq (atP o16 0) (atP o15 9) fun r18 =>
        xad r18
         (rt [.sc] [(.bool false)] k)
         (call Qkf [.agg [a0,a1,a2]] fun o19 =>
         call Qkx [.agg [(atP o19 0),(atP o19 1),(atP o19 2)],.one a3] fun o20 =>
         call Qky [.agg [(atP o20 0),(atP o20 1),(atP o20 2),(atP o20 3),(atP o20 4),(atP o20 5),(atP o20 6),(atP o20 7),(atP o20 8)],.agg [(atP o3 0),(atP o3 1),(atP o3 2),(atP o3 3),(atP o3 4),(atP o3 5),(atP o3 6),(atP o3 7),(atP o3 8)]] fun o21 =>
         unP .not (atP o21 0) fun r22 =>
         xad r22
          (rt [.sc] [(.bool false)] k)
          (call Qla [.agg [(atP o15 0),(atP o15 1),(atP o5 2),(atP o5 3),(atP o5 4),(atP o5 5),(atP o15 6),(atP o15 7),(atP o5 8)],.one (I 1)] fun o23 =>
          xac .lss (atP o23 0) (I 0) fun r24 =>
          xad r24
           (rt [.sc] [(.bool false)] k)
           (xac .neq (atP o23 0) (atP o15 9) fun r25 =>
           xad r25
            (rt [.sc] [(.bool false)] k)
            (rt [.sc] [(.bool true)] k))))))))))) u0
 | _,_=>False
abbrev laws_FnExactCheckBundle_e:Ent:=⟨[8],laws_FnExactCheckBundle⟩
theorem laws_FnExactCheckBundle_w:EO laws_FnExactCheckBundle_e:=oFz (ec Qke_w (ec Qkf_w (ec Qko_w (ec Qkx_w (ec Qky_w (ec Qkz_w (ec laws_markBundle_w (ec laws_markTrace_w (ec Qla_w en))))))))) func8 fun av k h=>by
 unfold laws_FnExactCheckBundle at h;split at h
 ·apply xab h;clear h;intro a0 a1 a2 h;exact km h
 ·exact h.elim
end Go.Ev
