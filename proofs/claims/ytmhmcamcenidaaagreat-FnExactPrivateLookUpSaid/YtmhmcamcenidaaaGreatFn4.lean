/- For each function the meaning that the evaluator gives it, proved, part 4. -/
import Derived.Test.YtmhmcamcenidaaaGreatFn3
set_option linter.unusedVariables false
set_option linter.unusedSimpArgs false
set_option maxRecDepth 100000
namespace Go.Ev
open Go.Proofs Go.Proofs.Tryz
def Qiu_r0 (v:List PV) (K:List PV→Prop) (x0k:Cur 17) (x1k:Cur 17) (x2k:Cur 17) (x3k:Cur 17) (x4k:Cur 23):Prop :=
 un 23 (fun v0 v1 v2 v3 v4 v5 v6 v7 v8 v9 v10 v11 v12 v13 v14 v15 v16 v17 v18 v19 v20 v21 v22 =>
  let F9:=fun (c2:List PV) (r61:PV)=>call Qbr [.agg [(atP c2 2),(atP c2 3),(atP c2 4),(atP c2 5)]] fun o63 =>
   x2k v5 v6 (atP c2 1) (atP o63 0) (atP o63 1) (atP o63 2) (atP o63 3) v13 v14 v15 v16 v17 v18 v19 v20 r61 v21
  let F2:=fun (c2:List PV) (o57:List PV)=>call Qit [.agg [v5,v6],.one v1] fun o60 =>
   xad (atP o60 0)
   ((1=1)∧(1≤16777216)∧(1=1)∧(0=0)∧(1=1)∧(xae [.pv (I 0)] [.pv (I 3)])∧xbA 1 v22 (.list 1 [[(I 3)]]) fun r61 =>
   xac .eql (I 3) (I 1) fun r62 =>
   xad r62
   (F9 c2 r61)
   (xac .add v4 (I 1) fun r64 =>
   K [v0,v1,v2,v3,r64,v5,v6,v7,v8,v9,v10,v11,v12,v13,v14,v15,v16,v17,v18,v19,v20,v21,r61]))
   ((1=1)∧(1≤16777216)∧(1=1)∧(0=0)∧(1=1)∧(xae [.pv (I 0)] [.pv (atP o57 0)])∧xbA 1 v22 (.list 1 [[(atP o57 0)]]) fun r65 =>
   xac .eql (atP o57 0) (I 1) fun r66 =>
   xad r66
   (F9 c2 r65)
   (xac .add v4 (I 1) fun r68 =>
   K [v0,v1,v2,v3,r68,v5,v6,v7,v8,v9,v10,v11,v12,v13,v14,v15,v16,v17,v18,v19,v20,v21,r65]))
  let F7:=fun (c2:List PV) (r91:PV)=>call Qbr [.agg [(atP c2 2),(atP c2 3),(atP c2 4),(atP c2 5)]] fun o93 =>
   x3k v5 v6 (atP c2 1) (atP o93 0) (atP o93 1) (atP o93 2) (atP o93 3) v13 v14 v15 v16 v17 v18 v19 v20 r91 v21
  let F4:=fun (o57:List PV) (c2:List PV)=>(1=1)∧(1≤16777216)∧(1=1)∧(0=0)∧(1=1)∧(xae [.pv (I 0)] [.pv (atP o57 0)])∧xbA 1 v22 (.list 1 [[(atP o57 0)]]) fun r69 =>
   xac .eql (atP o57 0) (I 1) fun r70 =>
   xad r70
   (F7 c2 r69)
   (xac .add v4 (I 1) fun r72 =>
   K [v0,v1,v2,v3,r72,v5,v6,v7,v8,v9,v10,v11,v12,v13,v14,v15,v16,v17,v18,v19,v20,v21,r69])
  let F0:=fun (c2:List PV)=>call Qip [.one v1,.one v2,.agg [(atP c2 0),(atP c2 1),(atP c2 2),(atP c2 3),(atP c2 4),(atP c2 5),(atP c2 6),(atP c2 7),(atP c2 8),(atP c2 9),(atP c2 10),(atP c2 11),(atP c2 12),(atP c2 13),(atP c2 14),(atP c2 15),(atP c2 16),(atP c2 17),(atP c2 18),(atP c2 19),(atP c2 20)],.one v3] fun o57 =>
   xac .eql (I 6) (I 1) fun r58 =>
   xad r58
   (xac .eql (atP o57 0) (I 1) fun r59 =>
   xad r59
   (F2 c2 o57)
   (F4 o57 c2))
   (xac .eql (I 6) (I 2) fun r73 =>
   xad r73
   (xac .eql (atP o57 0) (I 1) fun r74 =>
   xad r74
   (F2 c2 o57)
   (F4 o57 c2))
   (xac .eql (I 6) (I 3) fun r88 =>
   xac .eql (atP o57 0) (I 1) fun r89 =>
   xad r89
   (unP .not r88 fun r90 =>
   xad r90
   ((1=1)∧(1≤16777216)∧(1=1)∧(0=0)∧(1=1)∧(xae [.pv (I 0)] [.pv (I 3)])∧xbA 1 v22 (.list 1 [[(I 3)]]) fun r91 =>
   xac .eql (I 3) (I 1) fun r92 =>
   xad r92
   (F7 c2 r91)
   (xac .add v4 (I 1) fun r94 =>
   K [v0,v1,v2,v3,r94,v5,v6,v7,v8,v9,v10,v11,v12,v13,v14,v15,v16,v17,v18,v19,v20,v21,r91]))
   (F2 c2 o57))
   (F4 o57 c2)))
  let F8:=fun (c2:List PV) (o5:List PV) (r10:PV)=>call Qbr [.agg [(atP c2 2),(atP c2 3),(atP c2 4),(atP c2 5)]] fun o12 =>
   x0k (atP o5 0) (atP o5 1) (atP c2 1) (atP o12 0) (atP o12 1) (atP o12 2) (atP o12 3) v13 v14 v15 v16 v17 v18 v19 v20 r10 v21
  let F5:=fun (o5:List PV) (r40:PV)=>xac .add v4 (I 1) fun r43 =>
   K [v0,v1,v2,v3,r43,(atP o5 0),(atP o5 1),v7,v8,v9,v10,v11,v12,v13,v14,v15,v16,v17,v18,v19,v20,v21,r40]
  let F1:=fun (o5:List PV) (c2:List PV) (o6:List PV)=>call Qit [.agg [(atP o5 0),(atP o5 1)],.one v1] fun o9 =>
   xad (atP o9 0)
   ((1=1)∧(1≤16777216)∧(1=1)∧(0=0)∧(1=1)∧(xae [.pv (I 0)] [.pv (I 3)])∧xbA 1 v22 (.list 1 [[(I 3)]]) fun r10 =>
   xac .eql (I 3) (I 1) fun r11 =>
   xad r11
   (F8 c2 o5 r10)
   (F5 o5 r10))
   ((1=1)∧(1≤16777216)∧(1=1)∧(0=0)∧(1=1)∧(xae [.pv (I 0)] [.pv (atP o6 0)])∧xbA 1 v22 (.list 1 [[(atP o6 0)]]) fun r14 =>
   xac .eql (atP o6 0) (I 1) fun r15 =>
   xad r15
   (F8 c2 o5 r14)
   (F5 o5 r14))
  let F6:=fun (c2:List PV) (o5:List PV) (r40:PV)=>call Qbr [.agg [(atP c2 2),(atP c2 3),(atP c2 4),(atP c2 5)]] fun o42 =>
   x1k (atP o5 0) (atP o5 1) (atP c2 1) (atP o42 0) (atP o42 1) (atP o42 2) (atP o42 3) v13 v14 v15 v16 v17 v18 v19 v20 r40 v21
  let F3:=fun (o6:List PV) (c2:List PV) (o5:List PV)=>(1=1)∧(1≤16777216)∧(1=1)∧(0=0)∧(1=1)∧(xae [.pv (I 0)] [.pv (atP o6 0)])∧xbA 1 v22 (.list 1 [[(atP o6 0)]]) fun r18 =>
   xac .eql (atP o6 0) (I 1) fun r19 =>
   xad r19
   (F6 c2 o5 r18)
   (F5 o5 r18)
  xaK v0 fun r0 =>
  xac .lss v4 r0 fun r1 =>
  xad r1
   (xai 21 v0 v4 fun c2 =>
   call Qcv [.one (atP c2 0)] fun o3 =>
   xad (atP o3 16)
    (xac .eql (atP o3 0) v1 fun r4 =>
    xad r4
     (call Qie [.agg [v5,v6],.one (atP c2 0)] fun o5 =>
     call Qip [.one v1,.one v2,.agg [(atP c2 0),(atP c2 1),(atP c2 2),(atP c2 3),(atP c2 4),(atP c2 5),(atP c2 6),(atP c2 7),(atP c2 8),(atP c2 9),(atP c2 10),(atP c2 11),(atP c2 12),(atP c2 13),(atP c2 14),(atP c2 15),(atP c2 16),(atP c2 17),(atP c2 18),(atP c2 19),(atP c2 20)],.one v3] fun o6 =>
     xac .eql (atP o5 2) (I 1) fun r7 =>
     xad r7
      (xac .eql (atP o6 0) (I 1) fun r8 =>
      xad r8
       (F1 o5 c2 o6)
       (F3 o6 c2 o5))
      (xac .eql (atP o5 2) (I 2) fun r22 =>
      xad r22
       (xac .eql (atP o6 0) (I 1) fun r23 =>
       xad r23
        (F1 o5 c2 o6)
        (F3 o6 c2 o5))
       (xac .eql (atP o5 2) (I 3) fun r37 =>
       xac .eql (atP o6 0) (I 1) fun r38 =>
       xad r38
        (unP .not r37 fun r39 =>
        xad r39
         ((1=1)∧(1≤16777216)∧(1=1)∧(0=0)∧(1=1)∧(xae [.pv (I 0)] [.pv (I 3)])∧xbA 1 v22 (.list 1 [[(I 3)]]) fun r40 =>
         xac .eql (I 3) (I 1) fun r41 =>
         xad r41
          (F6 c2 o5 r40)
          (F5 o5 r40))
         (F1 o5 c2 o6))
        (F3 o6 c2 o5))))
     (F0 c2))
    (F0 c2))
   (x4k v0 v1 v2 v3 v4 v5 v6 v7 v8 v9 v10 v11 v12 v13 v14 v15 v16 v17 v18 v19 v20 v21 v22)) v
def Qiu:GM
 | [.agg u0,.one a2,.one a3,.one a4,.one a5],k=>un 2 (fun a0 a1 =>
  call Qbp [.agg [a0,a1]] fun o0 =>
  lp (fun L w=>Qiu_r0 w L
   (fun q159 q160 q161 q162 q163 q164 q165 q166 q167 q168 q169 q170 q171 q172 q173 q174 q175=>rt g5 [q159,q160,q161,q162,q163,q164,q165,(.bool true),q174] k)
   (fun q176 q177 q178 q179 q180 q181 q182 q183 q184 q185 q186 q187 q188 q189 q190 q191 q192=>rt g5 [q176,q177,q178,q179,q180,q181,q182,(.bool true),q191] k)
   (fun q193 q194 q195 q196 q197 q198 q199 q200 q201 q202 q203 q204 q205 q206 q207 q208 q209=>rt g5 [q193,q194,q195,q196,q197,q198,q199,(.bool true),q208] k)
   (fun q210 q211 q212 q213 q214 q215 q216 q217 q218 q219 q220 q221 q222 q223 q224 q225 q226=>rt g5 [q210,q211,q212,q213,q214,q215,q216,(.bool true),q225] k)
   (fun q227 q228 q229 q230 q231 q232 q233 q234 q235 q236 q237 q238 q239 q240 q241 q242 q243 q244 q245 q246 q247 q248 q249=>rt g5 [q232,q233,q234,q235,q236,q237,q238,q239,q249] k)) [a2,a3,a4,a5,(I 0),(atP o0 0),(atP o0 1),(.bool false),(.str ⟨#[]⟩),(I 0),(I 0),(.list 1 []),(.bool false),(.list 1 []),(.list 51 []),(.bool false),(.str ⟨#[]⟩),(I 0),(I 0),(.list 1 []),(.bool false),(.list 1 []),(.list 1 [])]) u0
 | _,_=>False
def Qiu_l:List LE:=[⟨none,0,⟨[(1,.one zB),(2,.one zB),(3,.one zB),(4,.one zB),(10,.one (.ptr 1 0)),(11,.one (.ptr 4 0)),(12,.one zB)],[(4,[zB,zB,zB,zB,zB,zB,zB,zB,.own 5]),(1,[zB,zB,zB,zB,zB,zB,zB,zB,.own 6])],[(6,⟨.deep,3,1,(.bool false)⟩),(5,⟨.deep,3,1,(.bool false)⟩)],7,99,[]⟩,fun K k v=>Qiu_r0 v K (fun x0 x1 x2 x3 x4 x5 x6 x7 x8 x9 x10 x11 x12 x13 x14 x15 x16=>k .ret ⟨[(10,.one (.ptr 1 0))],[(1,[.pv x0,.pv x1,.pv x2,.pv x3,.pv x4,.pv x5,.pv x6,.kb true,.own 32]),(1,[.pv x7,.pv x8,.pv x9,.pv x10,.pv x11,.pv x12,.pv x13,.pv x14,.own 6])],[(32,⟨.deep,3,1,x15⟩),(6,⟨.deep,3,1,x16⟩)],37,99,[]⟩) (fun x0 x1 x2 x3 x4 x5 x6 x7 x8 x9 x10 x11 x12 x13 x14 x15 x16=>k .ret ⟨[(10,.one (.ptr 1 0))],[(1,[.pv x0,.pv x1,.pv x2,.pv x3,.pv x4,.pv x5,.pv x6,.kb true,.own 31]),(1,[.pv x7,.pv x8,.pv x9,.pv x10,.pv x11,.pv x12,.pv x13,.pv x14,.own 6])],[(31,⟨.deep,3,1,x15⟩),(6,⟨.deep,3,1,x16⟩)],36,99,[]⟩) (fun x0 x1 x2 x3 x4 x5 x6 x7 x8 x9 x10 x11 x12 x13 x14 x15 x16=>k .ret ⟨[(10,.one (.ptr 1 0))],[(1,[.pv x0,.pv x1,.pv x2,.pv x3,.pv x4,.pv x5,.pv x6,.kb true,.own 29]),(1,[.pv x7,.pv x8,.pv x9,.pv x10,.pv x11,.pv x12,.pv x13,.pv x14,.own 6])],[(29,⟨.deep,3,1,x15⟩),(6,⟨.deep,3,1,x16⟩)],34,99,[]⟩) (fun x0 x1 x2 x3 x4 x5 x6 x7 x8 x9 x10 x11 x12 x13 x14 x15 x16=>k .ret ⟨[(10,.one (.ptr 1 0))],[(1,[.pv x0,.pv x1,.pv x2,.pv x3,.pv x4,.pv x5,.pv x6,.kb true,.own 28]),(1,[.pv x7,.pv x8,.pv x9,.pv x10,.pv x11,.pv x12,.pv x13,.pv x14,.own 6])],[(28,⟨.deep,3,1,x15⟩),(6,⟨.deep,3,1,x16⟩)],33,99,[]⟩) (fun x0 x1 x2 x3 x4 x5 x6 x7 x8 x9 x10 x11 x12 x13 x14 x15 x16 x17 x18 x19 x20 x21 x22=>k (.exit 0) ⟨[(1,.one (.pv x0)),(2,.one (.pv x1)),(3,.one (.pv x2)),(4,.one (.pv x3)),(10,.one (.ptr 1 0)),(11,.one (.ptr 4 0)),(12,.one (.pv x4))],[(4,[.pv x5,.pv x6,.pv x7,.pv x8,.pv x9,.pv x10,.pv x11,.pv x12,.own 5]),(1,[.pv x13,.pv x14,.pv x15,.pv x16,.pv x17,.pv x18,.pv x19,.pv x20,.own 6])],[(6,⟨.deep,3,1,x21⟩),(5,⟨.deep,3,1,x22⟩)],7,99,[]⟩)⟩]
theorem Qiu_s:xaD [⟨[150],Qbp⟩,⟨[171],Qcv⟩,⟨[172],Qie⟩,⟨[173],Qip⟩,⟨[174],Qit⟩,⟨[175],Qbr⟩] TT.shr (kk [1,2,3,4,10,11,12,40,41,42,43,62,63,66,67,72,73,74,75,76,77,78,79,999999]) Qiu_l f85 Qiu_l:=⟨fun v K k h=>by
 apply xab h;(repeat intro _);rename_i h;exact km h
 ,trivial⟩
theorem Qiu_w:EO ⟨[85],Qiu⟩:=oS (ec Qbp_w (ec Qcv_w (ec Qie_w (ec Qip_w (ec Qit_w (ec Qbr_w en)))))) (keep:=(kk [1,2,3,4,10,11,12,40,41,42,43,62,63,66,67,72,73,74,75,76,77,78,79,999999])) (l:=Qiu_l) func85 Qiu_s fun av k h=>by
 unfold Qiu at h;split at h
 ·apply xab h;clear h;intro a0 a1 h;exact km h
 ·exact h.elim
def Qiv_r0 (v:List PV) (K:List PV→Prop) (x0k:Cur 18) (x1k:Cur 17):Prop :=
 un 17 (fun v0 v1 v2 v3 v4 v5 v6 v7 v8 v9 v10 v11 v12 v13 v14 v15 v16 =>
  xaK v0 fun r0 =>
  xac .lss v4 r0 fun r1 =>
  xad r1
   (xac .lss v4 (I 4) fun r2 =>
   xad r2
    (xai 2 v0 v4 fun c3 =>
    call Qho [.one v1,.one v2] fun o4 =>
    call Qhx [.agg [(atP c3 0),(atP c3 1)],.agg [(atP o4 0),(atP o4 1)]] fun o5 =>
    call Qhy [.one (atP o5 0),.one v2] fun o6 =>
    xad (atP o6 21)
     ((1=1)∧(21≤16777216)∧(21=21)∧(0=0)∧(21=21)∧xbA 21 v16 (.list 21 [(s21 o6)]) fun r7 =>
     xac .add v4 (I 1) fun r8 =>
     K [v0,v1,v2,v3,r8,v5,v6,v7,v8,v9,v10,v11,v12,v13,v14,v15,r7])
     (xac .add v4 (I 1) fun r9 =>
     K [v0,v1,v2,v3,r9,v5,v6,v7,v8,v9,v10,v11,v12,v13,v14,v15,v16]))
    (x0k v0 v1 v2 v3 v4 r2 v5 v6 v7 v8 v9 v10 v11 v12 v13 v14 v15 v16))
   (x1k v0 v1 v2 v3 v4 v5 v6 v7 v8 v9 v10 v11 v12 v13 v14 v15 v16)) v
def Qiv:GM
 | [.agg u0,.one a2,.one a3,.one a4,.one a5],k=>un 2 (fun a0 a1 =>
  (0=0)∧(0≤16777216)∧(21=21)∧lp (fun L w=>Qiv_r0 w L
   (fun q10 q11 q12 q13 q14 q15 q16 q17 q18 q19 q20 q21 q22 q23 q24 q25 q26 q27=>call Qiu [.agg [q21,q22],.one q27,.one q11,.one q12,.one q13] fun o28 =>
    rt g5 (s9 o28) k)
   (fun q29 q30 q31 q32 q33 q34 q35 q36 q37 q38 q39 q40 q41 q42 q43 q44 q45=>call Qiu [.agg [q39,q40],.one q45,.one q30,.one q31,.one q32] fun o46 =>
    rt g5 (s9 o46) k)) [a2,a3,a4,a5,(I 0),(.bool false),(.str ⟨#[]⟩),(I 0),(I 0),(.bool false),a0,a1,(.list 1 []),(.list 1 []),(.list 51 []),(.list 1 []),(.list 21 [])]) u0
 | _,_=>False
def Qiv_l:List LE:=[⟨none,0,⟨[(1,.one zB),(2,.one zB),(3,.one zB),(4,.one zB),(5,.one (.ptr 0 0)),(10,.one (.ptr 1 0)),(11,.one (.own 2)),(12,.one zB)],[(1,[.own 3,.own 4,zB,zB,zB,zB,.own 5,zB,.own 6]),(0,[zB,zB])],[(6,⟨.deep,3,1,(.bool false)⟩),(5,⟨.flat,9,1,(.bool false)⟩),(4,⟨.flat,259,51,(.bool false)⟩),(3,⟨.flat,90,1,(.bool false)⟩),(2,⟨.flat,150,21,(.bool false)⟩)],7,50,[]⟩,fun K k v=>Qiv_r0 v K (fun x0 x1 x2 x3 x4 x5 x6 x7 x8 x9 x10 x11 x12 x13 x14 x15 x16 x17=>k (.exit 0) ⟨[(1,.one (.pv x0)),(2,.one (.pv x1)),(3,.one (.pv x2)),(4,.one (.pv x3)),(5,.one (.ptr 0 0)),(10,.one (.ptr 1 0)),(11,.one (.own 2)),(12,.one (.pv x4)),(21,.one (.pv x4)),(22,.one (.pv x5))],[(1,[.own 3,.own 4,.pv x6,.pv x7,.pv x8,.pv x9,.own 5,.pv x10,.own 6]),(0,[.pv x11,.pv x12])],[(6,⟨.deep,3,1,x13⟩),(5,⟨.flat,9,1,x14⟩),(4,⟨.flat,259,51,x15⟩),(3,⟨.flat,90,1,x16⟩),(2,⟨.flat,150,21,x17⟩)],7,50,[]⟩) (fun x0 x1 x2 x3 x4 x5 x6 x7 x8 x9 x10 x11 x12 x13 x14 x15 x16=>k (.exit 0) ⟨[(1,.one (.pv x0)),(2,.one (.pv x1)),(3,.one (.pv x2)),(4,.one (.pv x3)),(5,.one (.ptr 0 0)),(10,.one (.ptr 1 0)),(11,.one (.own 2)),(12,.one (.pv x4)),(21,.undef),(22,.undef)],[(1,[.own 3,.own 4,.pv x5,.pv x6,.pv x7,.pv x8,.own 5,.pv x9,.own 6]),(0,[.pv x10,.pv x11])],[(6,⟨.deep,3,1,x12⟩),(5,⟨.flat,9,1,x13⟩),(4,⟨.flat,259,51,x14⟩),(3,⟨.flat,90,1,x15⟩),(2,⟨.flat,150,21,x16⟩)],7,50,[]⟩)⟩]
theorem Qiv_s:xaD [⟨[84],Qho⟩,⟨[83],Qhx⟩,⟨[82],Qhy⟩,⟨[85],Qiu⟩] TT (kk [1,2,3,4,5,10,11,12,21,22,999999]) Qiv_l f28 Qiv_l:=⟨fun v K k h=>by
 apply xab h;(repeat intro _);rename_i h;exact km h
 ,trivial⟩
theorem Qiv_w:EO ⟨[28],Qiv⟩:=oN (ec Qho_w (ec Qhx_w (ec Qhy_w (ec Qiu_w en)))) (keep:=(kk [1,2,3,4,5,10,11,12,21,22,999999])) (l:=Qiv_l) func28 Qiv_s fun av k h=>by
 unfold Qiv at h;split at h
 ·apply xab h;clear h;intro a0 a1 h;exact km h
 ·exact h.elim
def Qiw:GM
 | [.one a0],k =>
  call Qgb [.one a0] fun o0 =>
  call Qen [.one (atP o0 0)] fun o1 =>
  xac .rem (atP o1 0) (I 4) fun r2 =>
  rt [.sc] [r2] k
 | _,_=>False
theorem Qiw_w:EO ⟨[179],Qiw⟩:=oFz (ec Qgb_w (ec Qen_w en)) func179 fun av k h=>by
 unfold Qiw at h;split at h
 ·exact km h
 ·exact h.elim
def Qix:GM
 | [.one a0,.one a1],k =>
  call Qiw [.one a1] fun o0 =>
  rt [.sc,.sc] [a0,(atP o0 0)] k
 | _,_=>False
theorem Qix_w:EO ⟨[90],Qix⟩:=oFz (ec Qiw_w en) func90 fun av k h=>by
 unfold Qix at h;split at h
 ·exact km h
 ·exact h.elim
def Qiy:GM
 | [.agg u0,.ro (.cells u1)],k=>un 2 (fun a0 a1=>un 1 (fun a2 =>
  call Qgn [.agg [a0,a1]] fun o0 =>
  xac .eql (atP o0 0) a2 fun r1 =>
  rt [.sc] [r1] k) u1) u0
 | _,_=>False
theorem Qiy_w:EO ⟨[249],Qiy⟩:=oFz (ec Qgn_w en) func249 fun av k h=>by
 unfold Qiy at h;split at h
 ·apply xab h;clear h;intro a0 a1 h;apply xab h;clear h;intro a2 h;exact km h
 ·exact h.elim
def Qiz_r0 (v:List PV) (K:List PV→Prop) (x0k:PV→Prop) (x1k:Cur 5):Prop :=
 un 5 (fun v0 v1 v2 v3 v4 =>
  xac .lss v4 v3 fun r0 =>
  xad r0
   (xai 2 v0 v4 fun c1 =>
   call Qiy [.agg [(atP c1 0),(atP c1 1)],.ro (.cells [v1])] fun o2 =>
   xad (atP o2 0)
    (x0k v4)
    (xac .add v4 (I 1) fun r3 =>
    K [v0,v1,v2,v3,r3]))
   (x1k v0 v1 v2 v3 v4)) v
def Qiz:GM
 | [.one a0,.fn 249 [.cells u0]],k=>un 1 (fun a1 =>
  xaK a0 fun r0 =>
  lp (fun L w=>Qiz_r0 w L
   (fun q4=>rt [.sc] [q4] k)
   (fun q5 q6 q7 q8 q9=>rt [.sc] [(I (-1))] k)) [a0,a1,(I 0),r0,(I 0)]) u0
 | _,_=>False
def Qiz_l:List LE:=[⟨none,0,⟨[(0,.one zB),(1,.one (.fn 249 [.ro (.cells [(.bool false)])])),(4,.one zB),(7,.one zB),(8,.one zB)],[],[],0,19,[]⟩,fun K k v=>Qiz_r0 v K (fun x0=>k .ret ⟨[(4,.one (.pv x0))],[],[],1,19,[]⟩) (fun x0 x1 x2 x3 x4=>k (.exit 0) ⟨[(0,.one (.pv x0)),(1,.one (.fn 249 [.ro (.cells [x1])])),(4,.one (.pv x2)),(7,.one (.pv x3)),(8,.one (.pv x4))],[],[],0,19,[]⟩)⟩]
theorem Qiz_s:xaD [⟨[249],Qiy⟩] TT (kk [0,1,4,7,8]) Qiz_l f248 Qiz_l:=⟨fun v K k h=>by
 apply xab h;exact fun v0 v1 v2 v3 v4 h=>km h
 ,trivial⟩
theorem Qiz_w:EO ⟨[248,249],Qiz⟩:=oN (ec Qiy_w en) (keep:=(kk [0,1,4,7,8])) (l:=Qiz_l) func248 Qiz_s fun av k h=>by
 unfold Qiz at h;split at h
 ·apply xab h;clear h;intro a1 h;exact km h
 ·exact h.elim
def Qja:GM
 | [.agg u0,.one a2],k=>un 2 (fun a0 a1 =>
  xac .lss a2 (I 0) fun r0 =>
  xad r0
   (rt [.sc] [(I (-1))] k)
   (call Qiz [.one a0,.fn 249 [.cells [a2]]] fun o1 =>
   rt [.sc] [(atP o1 0)] k)) u0
 | _,_=>False
theorem Qja_w:EO ⟨[178],Qja⟩:=oFz (ec Qiz_w en) func178 fun av k h=>by
 unfold Qja at h;split at h
 ·apply xab h;clear h;intro a0 a1 h;exact km h
 ·exact h.elim
def Qjb:GM
 | [.agg u0,.ro (.cells u1)],k=>un 4 (fun a0 a1 a2 a3=>un 1 (fun a4 =>
  xac .eql a0 a4 fun r0 =>
  rt [.sc] [r0] k) u1) u0
 | _,_=>False
theorem Qjb_w:EO ⟨[358],Qjb⟩:=oFz en func358 fun av k h=>by
 unfold Qjb at h;split at h
 ·apply xab h;clear h;intro a0 a1 a2 a3 h;apply xab h;clear h;intro a4 h;exact km h
 ·exact h.elim
def Qjc_r0 (v:List PV) (K:List PV→Prop) (x0k:PV→Prop) (x1k:Cur 5):Prop :=
 un 5 (fun v0 v1 v2 v3 v4 =>
  xac .lss v4 v3 fun r0 =>
  xad r0
   (xai 4 v0 v4 fun c1 =>
   call Qjb [.agg [(atP c1 0),(atP c1 1),(atP c1 2),(atP c1 3)],.ro (.cells [v1])] fun o2 =>
   xad (atP o2 0)
    (x0k v4)
    (xac .add v4 (I 1) fun r3 =>
    K [v0,v1,v2,v3,r3]))
   (x1k v0 v1 v2 v3 v4)) v
def Qjc:GM
 | [.one a0,.fn 358 [.cells u0]],k=>un 1 (fun a1 =>
  xaK a0 fun r0 =>
  lp (fun L w=>Qjc_r0 w L
   (fun q4=>rt [.sc] [q4] k)
   (fun q5 q6 q7 q8 q9=>rt [.sc] [(I (-1))] k)) [a0,a1,(I 0),r0,(I 0)]) u0
 | _,_=>False
def Qjc_l:List LE:=[⟨none,0,⟨[(0,.one zB),(1,.one (.fn 358 [.ro (.cells [(.bool false)])])),(4,.one zB),(7,.one zB),(8,.one zB)],[],[],0,19,[]⟩,fun K k v=>Qjc_r0 v K (fun x0=>k .ret ⟨[(4,.one (.pv x0))],[],[],1,19,[]⟩) (fun x0 x1 x2 x3 x4=>k (.exit 0) ⟨[(0,.one (.pv x0)),(1,.one (.fn 358 [.ro (.cells [x1])])),(4,.one (.pv x2)),(7,.one (.pv x3)),(8,.one (.pv x4))],[],[],0,19,[]⟩)⟩]
theorem Qjc_s:xaD [⟨[358],Qjb⟩] TT (kk [0,1,4,7,8]) Qjc_l f357 Qjc_l:=⟨fun v K k h=>by
 apply xab h;exact fun v0 v1 v2 v3 v4 h=>km h
 ,trivial⟩
theorem Qjc_w:EO ⟨[357,358],Qjc⟩:=oN (ec Qjb_w en) (keep:=(kk [0,1,4,7,8])) (l:=Qjc_l) func357 Qjc_s fun av k h=>by
 unfold Qjc at h;split at h
 ·apply xab h;clear h;intro a1 h;exact km h
 ·exact h.elim
def Qjd:GM
 | [.one a0,.one a1],k =>
  call Qjc [.one a0,.fn 358 [.cells [a1]]] fun o0 =>
  rt [.sc] [(atP o0 0)] k
 | _,_=>False
theorem Qjd_w:EO ⟨[308],Qjd⟩:=oFz (ec Qjc_w en) func308 fun av k h=>by
 unfold Qjd at h;split at h
 ·exact km h
 ·exact h.elim
def Qje_r0 (v:List PV) (K:List PV→Prop) (x0k:Cur 4):Prop :=
 un 4 (fun v0 v1 v2 v3 =>
  xaK v0 fun r0 =>
  xac .gtr r0 (I 1) fun r1 =>
  xad r1
   (xac .xor v1 (I 1) fun r2 =>
   xaK v0 fun r3 =>
   xac .lss r2 r3 fun r4 =>
   xad r4
    (xai 1 v0 r2 fun c5 =>
    (1=1)∧(1≤16777216)∧(1=1)∧(0=0)∧(1=1)∧(xae [.pv (I 0)] [.pv (atP c5 0)])∧xbA 1 v3 (.list 1 [[(atP c5 0)]]) fun r6 =>
    call Qgh [.one v0] fun o7 =>
    xac .quo v1 (I 2) fun r8 =>
    K [(atP o7 0),r8,v2,r6])
    (call Qgh [.one v0] fun o9 =>
    xac .quo v1 (I 2) fun r10 =>
    K [(atP o9 0),r10,v2,v3]))
   (x0k v0 v1 v2 v3)) v
def Qje:GM
 | [.one a0,.one a1],k =>
  (0=0)∧(0≤16777216)∧(1=1)∧xaK a0 fun r0 =>
  xac .sub r0 (I 1) fun r1 =>
  call Qeb [.one a1,.one (I 0),.one r1] fun o2 =>
  unP .not (atP o2 0) fun r3 =>
  xad r3
   (rt [.own true 3 1] [(.list 1 [])] k)
   (lp (fun L w=>Qje_r0 w L
    (fun q11 q12 q13 q14=>rt [.own true 3 1] [q14] k)) [a0,a1,(.list 1 []),(.list 1 [])])
 | _,_=>False
def Qje_l:List LE:=[⟨none,0,⟨[(0,.one zB),(1,.one zB),(4,.one (.own 2)),(5,.one (.own 0))],[],[(2,⟨.deep,3,1,(.bool false)⟩),(0,⟨.deep,3,1,(.bool false)⟩)],3,36,[]⟩,fun K k v=>Qje_r0 v K (fun x0 x1 x2 x3=>k (.exit 0) ⟨[(0,.one (.pv x0)),(1,.one (.pv x1)),(4,.one (.own 2)),(5,.one (.own 0))],[],[(2,⟨.deep,3,1,x2⟩),(0,⟨.deep,3,1,x3⟩)],3,36,[]⟩)⟩]
theorem Qje_s:xaD [⟨[266],Qeb⟩,⟨[401],Qgh⟩] TT.nofl (kk [0,1,4,5,999999]) Qje_l f359 Qje_l:=⟨fun v K k h=>by
 apply xab h;exact fun v0 v1 v2 v3 h=>km h
 ,trivial⟩
theorem Qje_w:EO ⟨[359],Qje⟩:=oF (ec Qeb_w (ec Qgh_w en)) (keep:=(kk [0,1,4,5,999999])) (l:=Qje_l) func359 Qje_s fun av k h=>by
 unfold Qje at h;split at h
 ·exact km h
 ·exact h.elim
def Qjf:GM
 | [.one a0,.one a1],k =>
  call Qjd [.one a0,.one a1] fun o0 =>
  xac .lss (atP o0 0) (I 0) fun r1 =>
  xad r1
   (rt [.sc,.own true 3 1,.sc] [(I 0),(.list 1 []),(.bool false)] k)
   (call Qge [.one a0] fun o2 =>
   call Qje [.one (atP o2 0),.one (atP o0 0)] fun o3 =>
   rt [.sc,.own true 3 1,.sc] [(atP o0 0),(atP o3 0),(.bool true)] k)
 | _,_=>False
theorem Qjf_w:EO ⟨[309],Qjf⟩:=oFz (ec Qjd_w (ec Qge_w (ec Qje_w en))) func309 fun av k h=>by
 unfold Qjf at h;split at h
 ·exact km h
 ·exact h.elim
def Qjg_r0 (v:List PV) (K:List PV→Prop) (x0k:Cur 6):Prop :=
 un 6 (fun v0 v1 v2 v3 v4 v5 =>
  xac .lss v5 v4 fun r0 =>
  xad r0
   (xai 4 v3 v5 fun c1 =>
   call Qfy [.one (atP c1 0),.one v0] fun o2 =>
   xac .lss (atP o2 0) (I 0) fun r3 =>
   xad r3
    (xac .add v2 (I 1) fun r4 =>
    xac .add v5 (I 1) fun r5 =>
    K [v0,v1,r4,v3,v4,r5])
    (xac .add v5 (I 1) fun r6 =>
    K [v0,v1,v2,v3,v4,r6]))
   (x0k v0 v1 v2 v3 v4 v5)) v
def Qjg:GM
 | [.one a0,.one a1],k =>
  xaK a0 fun r0 =>
  lp (fun L w=>Qjg_r0 w L
   (fun q7 q8 q9 q10 q11 q12=>rt [.sc] [q9] k)) [a1,(I 0),(I 0),a0,r0,(I 0)]
 | _,_=>False
def Qjg_l:List LE:=[⟨none,0,⟨[(1,.one zB),(4,.one zB),(5,.one zB),(8,.one zB),(9,.one zB),(10,.one zB)],[],[],0,23,[]⟩,fun K k v=>Qjg_r0 v K (fun x0 x1 x2 x3 x4 x5=>k (.exit 0) ⟨[(1,.one (.pv x0)),(4,.one (.pv x1)),(5,.one (.pv x2)),(8,.one (.pv x3)),(9,.one (.pv x4)),(10,.one (.pv x5))],[],[],0,23,[]⟩)⟩]
theorem Qjg_s:xaD [⟨[366],Qfy⟩] TT.nofl (kk [1,4,5,8,9,10,999999]) Qjg_l f361 Qjg_l:=⟨fun v K k h=>by
 apply xab h;exact fun v0 v1 v2 v3 v4 v5 h=>km h
 ,trivial⟩
theorem Qjg_w:EO ⟨[361],Qjg⟩:=oF (ec Qfy_w en) (keep:=(kk [1,4,5,8,9,10,999999])) (l:=Qjg_l) func361 Qjg_s fun av k h=>by
 unfold Qjg at h;split at h
 ·exact km h
 ·exact h.elim
def Qjh:GM
 | [.one a0,.one a1],k =>
  call Qfz [.one a0] fun o0 =>
  unP .not (atP o0 0) fun r1 =>
  xad r1
   (rt g6 [(I 0),(.str ⟨#[]⟩),(I 0),(I 0),(.list 1 []),(.str ⟨#[]⟩),(I 0),(I 0),(.list 1 []),(I 0),(.list 1 []),(I 0),(.list 1 []),(.bool false)] k)
   (call Qfq [.one a1] fun o2 =>
   unP .not (atP o2 0) fun r3 =>
   xad r3
    (rt g6 [(I 0),(.str ⟨#[]⟩),(I 0),(I 0),(.list 1 []),(.str ⟨#[]⟩),(I 0),(I 0),(.list 1 []),(I 0),(.list 1 []),(I 0),(.list 1 []),(.bool false)] k)
    (call Qjd [.one a0,.one a1] fun o4 =>
    xac .geq (atP o4 0) (I 0) fun r5 =>
    xad r5
     (rt g6 [(I 0),(.str ⟨#[]⟩),(I 0),(I 0),(.list 1 []),(.str ⟨#[]⟩),(I 0),(I 0),(.list 1 []),(I 0),(.list 1 []),(I 0),(.list 1 []),(.bool false)] k)
     (call Qjg [.one a0,.one a1] fun o6 =>
     xac .gtr (atP o6 0) (I 0) fun r7 =>
     xad r7
      (xac .sub (atP o6 0) (I 1) fun r8 =>
      xai 4 a0 r8 fun c9 =>
      call Qdv [.agg (s4 c9)] fun o10 =>
      call Qjf [.one a0,.one (atP o10 0)] fun o11 =>
      xaK a0 fun r12 =>
      xac .lss (atP o6 0) r12 fun r13 =>
      xad r13
       (xai 4 a0 (atP o6 0) fun c14 =>
       call Qdv [.agg (s4 c14)] fun o15 =>
       call Qjf [.one a0,.one (atP o15 0)] fun o16 =>
       rt g6 [(atP o6 0),(atP o10 0),(atP o10 1),(atP o10 2),(atP o10 3),(atP o15 0),(atP o15 1),(atP o15 2),(atP o15 3),(atP o11 0),(atP o11 1),(atP o16 0),(atP o16 1),(.bool true)] k)
       (rt g6 [(atP o6 0),(atP o10 0),(atP o10 1),(atP o10 2),(atP o10 3),(.str ⟨#[]⟩),(I 0),(I 0),(.list 1 []),(atP o11 0),(atP o11 1),(I 0),(.list 1 []),(.bool true)] k))
      (xaK a0 fun r17 =>
      xac .lss (atP o6 0) r17 fun r18 =>
      xad r18
       (xai 4 a0 (atP o6 0) fun c19 =>
       call Qdv [.agg (s4 c19)] fun o20 =>
       call Qjf [.one a0,.one (atP o20 0)] fun o21 =>
       rt g6 [(atP o6 0),(.str ⟨#[]⟩),(I 0),(I 0),(.list 1 []),(atP o20 0),(atP o20 1),(atP o20 2),(atP o20 3),(I 0),(.list 1 []),(atP o21 0),(atP o21 1),(.bool true)] k)
       (rt g6 [(atP o6 0),(.str ⟨#[]⟩),(I 0),(I 0),(.list 1 []),(.str ⟨#[]⟩),(I 0),(I 0),(.list 1 []),(I 0),(.list 1 []),(I 0),(.list 1 []),(.bool true)] k)))))
 | _,_=>False
theorem Qjh_w:EO ⟨[310],Qjh⟩:=oFz (ec Qfz_w (ec Qfq_w (ec Qjd_w (ec Qjg_w (ec Qdv_w (ec Qjf_w en)))))) func310 fun av k h=>by
 unfold Qjh at h;split at h
 ·exact km h
 ·exact h.elim
def Qji:GM
 | [.agg u0,.one a2],k=>un 2 (fun a0 a1 =>
  call Qgm [.agg [a0,a1]] fun o0 =>
  unP .not (atP o0 0) fun r1 =>
  xad r1
   (rt g1 [(.list 17 []),(.bool false),(.str ⟨#[]⟩),(I 0),(I 0),(.list 1 []),(I 0),(.list 1 []),(I 0),(.str ⟨#[]⟩),(I 0),(I 0),(.list 1 []),(.str ⟨#[]⟩),(I 0),(I 0),(.list 1 []),(I 0),(.list 1 []),(I 0),(.list 1 [])] k)
   (call Qfq [.one a2] fun o2 =>
   unP .not (atP o2 0) fun r3 =>
   xad r3
    (rt g1 [(.list 17 []),(.bool false),(.str ⟨#[]⟩),(I 0),(I 0),(.list 1 []),(I 0),(.list 1 []),(I 0),(.str ⟨#[]⟩),(I 0),(I 0),(.list 1 []),(.str ⟨#[]⟩),(I 0),(I 0),(.list 1 []),(I 0),(.list 1 []),(I 0),(.list 1 [])] k)
    (call Qdt [.one a0] fun o4 =>
    call Qjd [.one a1,.one a2] fun o5 =>
    xac .geq (atP o5 0) (I 0) fun r6 =>
    xad r6
     (xai 4 a1 (atP o5 0) fun c7 =>
     call Qdv [.agg (s4 c7)] fun o8 =>
     call Qjf [.one a1,.one a2] fun o9 =>
     rt g1 [(atP o4 0),(.bool true),(atP o8 0),(atP o8 1),(atP o8 2),(atP o8 3),(atP o9 0),(atP o9 1),(I 0),(.str ⟨#[]⟩),(I 0),(I 0),(.list 1 []),(.str ⟨#[]⟩),(I 0),(I 0),(.list 1 []),(I 0),(.list 1 []),(I 0),(.list 1 [])] k)
     (call Qjh [.one a1,.one a2] fun o10 =>
     rt g1 [(atP o4 0),(.bool false),(.str ⟨#[]⟩),(I 0),(I 0),(.list 1 []),(I 0),(.list 1 []),(atP o10 0),(atP o10 1),(atP o10 2),(atP o10 3),(atP o10 4),(atP o10 5),(atP o10 6),(atP o10 7),(atP o10 8),(atP o10 9),(atP o10 10),(atP o10 11),(atP o10 12)] k)))) u0
 | _,_=>False
theorem Qji_w:EO ⟨[252],Qji⟩:=oFz (ec Qgm_w (ec Qfq_w (ec Qdt_w (ec Qjd_w (ec Qdv_w (ec Qjf_w (ec Qjh_w en))))))) func252 fun av k h=>by
 unfold Qji at h;split at h
 ·apply xab h;clear h;intro a0 a1 h;exact km h
 ·exact h.elim
def Qjj:GM
 | [.agg u0,.one a2,.one a3],k=>un 2 (fun a0 a1 =>
  call Qja [.agg [a0,a1],.one a2] fun o0 =>
  xac .lss (atP o0 0) (I 0) fun r1 =>
  xad r1
   (rt g1 [(.list 17 []),(.bool false),(.str ⟨#[]⟩),(I 0),(I 0),(.list 1 []),(I 0),(.list 1 []),(I 0),(.str ⟨#[]⟩),(I 0),(I 0),(.list 1 []),(.str ⟨#[]⟩),(I 0),(I 0),(.list 1 []),(I 0),(.list 1 []),(I 0),(.list 1 [])] k)
   (xac .eql a1 (I 4) fun r2 =>
   xad r2
    (rt g1 [(.list 17 []),(.bool false),(.str ⟨#[]⟩),(I 0),(I 0),(.list 1 []),(I 0),(.list 1 []),(I 0),(.str ⟨#[]⟩),(I 0),(I 0),(.list 1 []),(.str ⟨#[]⟩),(I 0),(I 0),(.list 1 []),(I 0),(.list 1 []),(I 0),(.list 1 [])] k)
    (xai 2 a0 (atP o0 0) fun c3 =>
    call Qji [.agg [(atP c3 0),(atP c3 1)],.one a3] fun o4 =>
    xac .eql a1 (I 1) fun r5 =>
    xad r5
     (xac .add (atP o4 4) (I 1) fun r6 =>
     rt g1 [(atP o4 0),(atP o4 1),(atP o4 2),(atP o4 3),r6,(atP o4 5),(atP o4 6),(atP o4 7),(atP o4 8),(atP o4 9),(atP o4 10),(atP o4 11),(atP o4 12),(atP o4 13),(atP o4 14),(atP o4 15),(atP o4 16),(atP o4 17),(atP o4 18),(atP o4 19),(atP o4 20)] k)
     (xac .eql a1 (I 2) fun r7 =>
     xad r7
      (xaK (atP o4 0) fun r8 =>
      xac .sub r8 (I 1) fun r9 =>
      xtf (I 0) r9 fun r10 =>
      xlZ r10 fun n11 =>
      xkg 17 (atP o4 0) none (some n11) fun r12 =>
      rt g1 [r12,(atP o4 1),(atP o4 2),(atP o4 3),(atP o4 4),(atP o4 5),(atP o4 6),(atP o4 7),(atP o4 8),(atP o4 9),(atP o4 10),(atP o4 11),(atP o4 12),(atP o4 13),(atP o4 14),(atP o4 15),(atP o4 16),(atP o4 17),(atP o4 18),(atP o4 19),(atP o4 20)] k)
      (xac .eql a1 (I 3) fun r13 =>
      xad r13
       (rt g1 [(atP o4 0),(.bool false),(.str ⟨#[]⟩),(I 0),(I 0),(.list 1 []),(I 0),(.list 1 []),(I 0),(.str ⟨#[]⟩),(I 0),(I 0),(.list 1 []),(.str ⟨#[]⟩),(I 0),(I 0),(.list 1 []),(I 0),(.list 1 []),(I 0),(.list 1 [])] k)
       (rt g1 (s21 o4) k)))))) u0
 | _,_=>False
theorem Qjj_w:EO ⟨[180],Qjj⟩:=oMz (ec Qja_w (ec Qji_w en)) func180 fun av k h=>by
 unfold Qjj at h;split at h
 ·apply xab h;clear h;intro a0 a1 h;exact km h
 ·exact h.elim
def Qjk_r0 (v:List PV) (K:List PV→Prop) (x0k:Cur 9):Prop :=
 un 9 (fun v0 v1 v2 v3 v4 v5 v6 v7 v8 =>
  xac .lss v2 v1 fun r0 =>
  xad r0
   (xai 4 v0 v2 fun c1 =>
   call Qiw [.one (atP c1 0)] fun o2 =>
   xac .eql (atP o2 0) v4 fun r3 =>
   xad r3
    (call Qjj [.agg [v5,v6],.one v3,.one (atP c1 0)] fun o4 =>
    (1=1)∧(21≤16777216)∧(21=21)∧(0=0)∧(21=21)∧(xae [.nil 257 17,zB,.pv (.str ⟨#[]⟩),.pv (I 0),.pv (I 0),.nil 9 1,.pv (I 0),.nil 3 1,.pv (I 0),.pv (.str ⟨#[]⟩),.pv (I 0),.pv (I 0),.nil 9 1,.pv (.str ⟨#[]⟩),.pv (I 0),.pv (I 0),.nil 9 1,.pv (I 0),.nil 3 1,.pv (I 0),.nil 3 1] [.own 7,.pv (atP o4 1),.pv (atP o4 2),.pv (atP o4 3),.pv (atP o4 4),.own 12,.pv (atP o4 6),.own 14,.pv (atP o4 8),.pv (atP o4 9),.pv (atP o4 10),.pv (atP o4 11),.own 19,.pv (atP o4 13),.pv (atP o4 14),.pv (atP o4 15),.own 23,.pv (atP o4 17),.own 25,.pv (atP o4 19),.own 27])∧xbA 21 v8 (.list 21 [(s21 o4)]) fun r5 =>
    xac .add v2 (I 1) fun r6 =>
    K [v0,v1,r6,v3,v4,v5,v6,v7,r5])
    (xac .add v2 (I 1) fun r7 =>
    K [v0,v1,r7,v3,v4,v5,v6,v7,v8]))
   (x0k v0 v1 v2 v3 v4 v5 v6 v7 v8)) v
def Qjk:GM
 | [.agg u0,.agg u1],k=>un 2 (fun a0 a1=>un 2 (fun a2 a3 =>
  (0=0)∧(0≤16777216)∧(21=21)∧call Qja [.agg [a0,a1],.one a2] fun o0 =>
  xac .lss (atP o0 0) (I 0) fun r1 =>
  xad r1
   (rt [.own true 150 21] [(.list 21 [])] k)
   (xai 2 a0 (atP o0 0) fun c2 =>
   xaK (atP c2 1) fun r3 =>
   lp (fun L w=>Qjk_r0 w L
    (fun q8 q9 q10 q11 q12 q13 q14 q15 q16=>rt [.own true 150 21] [q16] k)) [(atP c2 1),r3,(I 0),a2,a3,a0,a1,(.list 21 []),(.list 21 [])])) u1) u0
 | _,_=>False
def Qjk_l:List LE:=[⟨none,0,⟨[(2,.one (.ptr 0 0)),(3,.one (.ptr 1 0)),(4,.one (.own 4)),(5,.one (.own 2)),(22,.one zB),(23,.one zB),(24,.one zB)],[(1,[zB,zB]),(0,[zB,zB])],[(4,⟨.deep,150,21,(.bool false)⟩),(2,⟨.deep,150,21,(.bool false)⟩)],5,45,[]⟩,fun K k v=>Qjk_r0 v K (fun x0 x1 x2 x3 x4 x5 x6 x7 x8=>k (.exit 0) ⟨[(2,.one (.ptr 0 0)),(3,.one (.ptr 1 0)),(4,.one (.own 4)),(5,.one (.own 2)),(22,.one (.pv x0)),(23,.one (.pv x1)),(24,.one (.pv x2))],[(1,[.pv x3,.pv x4]),(0,[.pv x5,.pv x6])],[(4,⟨.deep,150,21,x7⟩),(2,⟨.deep,150,21,x8⟩)],5,45,[]⟩)⟩]
theorem Qjk_s:xaD [⟨[178],Qja⟩,⟨[179],Qiw⟩,⟨[180],Qjj⟩] TT.nofl (kk [2,3,4,5,22,23,24,999999]) Qjk_l f89 Qjk_l:=⟨fun v K k h=>by
 apply xab h;(repeat intro _);rename_i h;exact km h
 ,trivial⟩
theorem Qjk_w:EO ⟨[89],Qjk⟩:=oF (ec Qja_w (ec Qiw_w (ec Qjj_w en))) (keep:=(kk [2,3,4,5,22,23,24,999999])) (l:=Qjk_l) func89 Qjk_s fun av k h=>by
 unfold Qjk at h;split at h
 ·apply xab h;clear h;intro a0 a1 h;apply xab h;clear h;intro a2 a3 h;exact km h
 ·exact h.elim
def Qjl_r0 (v:List PV) (K:List PV→Prop) (x0k:Cur 42) (x1k:Cur 26):Prop :=
 un 26 (fun v0 v1 v2 v3 v4 v5 v6 v7 v8 v9 v10 v11 v12 v13 v14 v15 v16 v17 v18 v19 v20 v21 v22 v23 v24 v25 =>
  xac .lss v4 v3 fun r0 =>
  xad r0
   (xai 21 v2 v4 fun c1 =>
   xad (atP c1 1)
    (xac .eql (atP c1 2) v0 fun r2 =>
    xad r2
     (call Qea [.agg [(atP c1 0),(atP c1 1),(atP c1 2),(atP c1 3),(atP c1 4),(atP c1 5),(atP c1 6),(atP c1 7),(atP c1 8),(atP c1 9),(atP c1 10),(atP c1 11),(atP c1 12),(atP c1 13),(atP c1 14),(atP c1 15),(atP c1 16),(atP c1 17),(atP c1 18),(atP c1 19),(atP c1 20)]] fun o3 =>
     x0k (atP o3 1) (atP o3 2) (atP o3 3) (atP o3 4) (atP o3 6) (atP o3 8) (atP o3 9) (atP o3 10) (atP o3 11) (atP o3 13) (atP o3 14) (atP o3 15) (atP o3 17) (atP o3 19) v5 v6 v7 v8 v9 v10 v11 v12 v13 v14 v15 v16 v17 v18 (atP o3 0) (atP o3 5) (atP o3 7) (atP o3 12) (atP o3 16) (atP o3 18) (atP o3 20) v19 v20 v21 v22 v23 v24 v25)
     (xac .add v4 (I 1) fun r4 =>
     K [v0,v1,v2,v3,r4,v5,v6,v7,v8,v9,v10,v11,v12,v13,v14,v15,v16,v17,v18,v19,v20,v21,v22,v23,v24,v25]))
    (xac .add v4 (I 1) fun r5 =>
    K [v0,v1,v2,v3,r5,v5,v6,v7,v8,v9,v10,v11,v12,v13,v14,v15,v16,v17,v18,v19,v20,v21,v22,v23,v24,v25]))
   (x1k v0 v1 v2 v3 v4 v5 v6 v7 v8 v9 v10 v11 v12 v13 v14 v15 v16 v17 v18 v19 v20 v21 v22 v23 v24 v25)) v
def Qjl:GM
 | [.one a0,.one a1],k =>
  xaK a0 fun r0 =>
  lp (fun L w=>Qjl_r0 w L
   (fun q6 q7 q8 q9 q10 q11 q12 q13 q14 q15 q16 q17 q18 q19 q20 q21 q22 q23 q24 q25 q26 q27 q28 q29 q30 q31 q32 q33 q34 q35 q36 q37 q38 q39 q40 q41 q42 q43 q44 q45 q46 q47=>rt g24 [q34,q6,q7,q8,q9,q35,q10,q36,q11,q12,q13,q14,q37,q15,q16,q17,q38,q18,q39,q19,q40,(.bool true)] k)
   (fun q48 q49 q50 q51 q52 q53 q54 q55 q56 q57 q58 q59 q60 q61 q62 q63 q64 q65 q66 q67 q68 q69 q70 q71 q72 q73=>rt g24 [(.list 17 []),(.bool false),(.str ⟨#[]⟩),(I 0),(I 0),(.list 1 []),(I 0),(.list 1 []),(I 0),(.str ⟨#[]⟩),(I 0),(I 0),(.list 1 []),(.str ⟨#[]⟩),(I 0),(I 0),(.list 1 []),(I 0),(.list 1 []),(I 0),(.list 1 []),(.bool false)] k)) [a1,(.bool false),a0,r0,(I 0),(.bool false),(.str ⟨#[]⟩),(I 0),(I 0),(I 0),(I 0),(.str ⟨#[]⟩),(I 0),(I 0),(.str ⟨#[]⟩),(I 0),(I 0),(I 0),(I 0),(.list 1 []),(.list 1 []),(.list 1 []),(.list 1 []),(.list 1 []),(.list 1 []),(.list 17 [])]
 | _,_=>False
def Qjl_l:List LE:=[⟨none,0,⟨[(1,.one zB),(4,.one (.ptr 0 0)),(5,.one zB),(8,.one zB),(9,.one zB),(10,.one zB)],[(0,[.own 1,zB,zB,zB,zB,.own 2,zB,.own 3,zB,zB,zB,zB,.own 4,zB,zB,zB,.own 5,zB,.own 6,zB,.own 7])],[(7,⟨.deep,3,1,(.bool false)⟩),(6,⟨.deep,3,1,(.bool false)⟩),(5,⟨.deep,9,1,(.bool false)⟩),(4,⟨.deep,9,1,(.bool false)⟩),(3,⟨.deep,3,1,(.bool false)⟩),(2,⟨.deep,9,1,(.bool false)⟩),(1,⟨.deep,257,17,(.bool false)⟩)],8,27,[]⟩,fun K k v=>Qjl_r0 v K (fun x0 x1 x2 x3 x4 x5 x6 x7 x8 x9 x10 x11 x12 x13 x14 x15 x16 x17 x18 x19 x20 x21 x22 x23 x24 x25 x26 x27 x28 x29 x30 x31 x32 x33 x34 x35 x36 x37 x38 x39 x40 x41=>k .ret ⟨[(4,.one (.ptr 0 0)),(5,.one (.kb true))],[(0,[.own 9,.pv x0,.pv x1,.pv x2,.pv x3,.own 14,.pv x4,.own 16,.pv x5,.pv x6,.pv x7,.pv x8,.own 21,.pv x9,.pv x10,.pv x11,.own 25,.pv x12,.own 27,.pv x13,.own 29]),(0,[.own 1,.pv x14,.pv x15,.pv x16,.pv x17,.own 2,.pv x18,.own 3,.pv x19,.pv x20,.pv x21,.pv x22,.own 4,.pv x23,.pv x24,.pv x25,.own 5,.pv x26,.own 6,.pv x27,.own 7])],[(9,⟨.deep,257,17,x28⟩),(14,⟨.deep,9,1,x29⟩),(16,⟨.deep,3,1,x30⟩),(21,⟨.deep,9,1,x31⟩),(25,⟨.deep,9,1,x32⟩),(27,⟨.deep,3,1,x33⟩),(29,⟨.deep,3,1,x34⟩),(7,⟨.deep,3,1,x35⟩),(6,⟨.deep,3,1,x36⟩),(5,⟨.deep,9,1,x37⟩),(4,⟨.deep,9,1,x38⟩),(3,⟨.deep,3,1,x39⟩),(2,⟨.deep,9,1,x40⟩),(1,⟨.deep,257,17,x41⟩)],30,27,[]⟩) (fun x0 x1 x2 x3 x4 x5 x6 x7 x8 x9 x10 x11 x12 x13 x14 x15 x16 x17 x18 x19 x20 x21 x22 x23 x24 x25=>k (.exit 0) ⟨[(1,.one (.pv x0)),(4,.one (.ptr 0 0)),(5,.one (.pv x1)),(8,.one (.pv x2)),(9,.one (.pv x3)),(10,.one (.pv x4))],[(0,[.own 1,.pv x5,.pv x6,.pv x7,.pv x8,.own 2,.pv x9,.own 3,.pv x10,.pv x11,.pv x12,.pv x13,.own 4,.pv x14,.pv x15,.pv x16,.own 5,.pv x17,.own 6,.pv x18,.own 7])],[(7,⟨.deep,3,1,x19⟩),(6,⟨.deep,3,1,x20⟩),(5,⟨.deep,9,1,x21⟩),(4,⟨.deep,9,1,x22⟩),(3,⟨.deep,3,1,x23⟩),(2,⟨.deep,9,1,x24⟩),(1,⟨.deep,257,17,x25⟩)],8,27,[]⟩)⟩]
theorem Qjl_s:xaD [⟨[177],Qea⟩] TT.nofl (kk [1,4,5,8,9,10,17,18,19,20,21,999999]) Qjl_l f88 Qjl_l:=⟨fun v K k h=>by
 apply xab h;(repeat intro _);rename_i h;exact km h
 ,trivial⟩
theorem Qjl_w:EO ⟨[88],Qjl⟩:=oF (ec Qea_w en) (keep:=(kk [1,4,5,8,9,10,17,18,19,20,21,999999])) (l:=Qjl_l) func88 Qjl_s fun av k h=>by
 unfold Qjl at h;split at h
 ·exact km h
 ·exact h.elim
def Qjm:GM
 | [.one a0],k =>
  call Qfo [.one a0] fun o0 =>
  unP .not (atP o0 0) fun r1 =>
  xad r1
   (rt g25 [(I 0),(I 0),(I 0),(I 0),(I 0),(I 0),(I 0),(I 0),(.list 1 []),(I 0),(.list 1 []),(I 0),(I 0),(.list 1 []),(I 0),(.bool false),(.bool false)] k)
   (call Qfp [.one a0] fun o2 =>
   call Qdq [.agg (s16 o2)] fun o3 =>
   rt g25 [(atP o3 0),(atP o3 1),(atP o3 2),(atP o3 3),(atP o3 4),(atP o3 5),(atP o3 6),(atP o3 7),(atP o3 8),(atP o3 9),(atP o3 10),(atP o3 11),(atP o3 12),(atP o3 13),(atP o3 14),(atP o3 15),(.bool true)] k)
 | _,_=>False
theorem Qjm_w:EO ⟨[288],Qjm⟩:=oFz (ec Qfo_w (ec Qfp_w (ec Qdq_w en))) func288 fun av k h=>by
 unfold Qjm at h;split at h
 ·exact km h
 ·exact h.elim
def Qjn:GM
 | [.agg u0,.one a16],k=>un 16 (fun a0 a1 a2 a3 a4 a5 a6 a7 a8 a9 a10 a11 a12 a13 a14 a15 =>
  call Qeb [.one a16,.one a3,.one a4] fun o0 =>
  rt [.sc] [(atP o0 0)] k) u0
 | _,_=>False
theorem Qjn_w:EO ⟨[289],Qjn⟩:=oFz (ec Qeb_w en) func289 fun av k h=>by
 unfold Qjn at h;split at h
 ·apply xab h;clear h;(repeat intro _);rename_i h;exact km h
 ·exact h.elim
def Qjo_r0 (v:List PV) (K:List PV→Prop) (x0k:Prop) (x1k:Cur 6):Prop :=
 un 6 (fun v0 v1 v2 v3 v4 v5 =>
  xac .gtr v2 (I 1) fun r0 =>
  xad r0
   (xac .xor v1 (I 1) fun r1 =>
   xac .geq r1 v2 fun r2 =>
   xad r2
    (xac .quo v1 (I 2) fun r3 =>
    xac .add v2 (I 1) fun r4 =>
    xac .quo r4 (I 2) fun r5 =>
    K [v0,r3,r5,v3,v4,v5])
    (xaK v3 fun r6 =>
    xac .eql r6 (I 0) fun r7 =>
    xad r7
     (x0k)
     (xac .rem v1 (I 2) fun r8 =>
     xac .eql r8 (I 0) fun r9 =>
     xad r9
      (xai 1 v3 (I 0) fun c10 =>
      call Qgg [.one v0,.one (atP c10 0)] fun o11 =>
      xlZ (I 1) fun n12 =>
      xkg 1 v3 (some n12) none fun r13 =>
      xac .quo v1 (I 2) fun r14 =>
      xac .add v2 (I 1) fun r15 =>
      xac .quo r15 (I 2) fun r16 =>
      K [(atP o11 0),r14,r16,r13,v4,v5])
      (xai 1 v3 (I 0) fun c17 =>
      call Qgg [.one (atP c17 0),.one v0] fun o18 =>
      xlZ (I 1) fun n19 =>
      xkg 1 v3 (some n19) none fun r20 =>
      xac .quo v1 (I 2) fun r21 =>
      xac .add v2 (I 1) fun r22 =>
      xac .quo r22 (I 2) fun r23 =>
      K [(atP o18 0),r21,r23,r20,v4,v5]))))
   (x1k v0 v1 v2 v3 v4 v5)) v
def Qjo:GM
 | [.one a0,.one a1,.one a2,.one a3],k =>
  xac .lss a2 (I 1) fun r0 =>
  xad r0
   (rt [.sc,.sc] [(I 0),(.bool false)] k)
   (xac .gtr a2 (I 12) fun r1 =>
   xad r1
    (rt [.sc,.sc] [(I 0),(.bool false)] k)
    (xac .sub a2 (I 1) fun r2 =>
    call Qeb [.one a1,.one (I 0),.one r2] fun o3 =>
    unP .not (atP o3 0) fun r4 =>
    xad r4
     (rt [.sc,.sc] [(I 0),(.bool false)] k)
     (lp (fun L w=>Qjo_r0 w L
      (rt [.sc,.sc] [(I 0),(.bool false)] k)
      (fun q24 q25 q26 q27 q28 q29=>xaK q27 fun r30 =>
       xac .gtr r30 (I 0) fun r31 =>
       xad r31
        (rt [.sc,.sc] [(I 0),(.bool false)] k)
        (rt [.sc,.sc] [q24,(.bool true)] k))) [a0,a1,a2,a3,(I 0),(.bool false)])))
 | _,_=>False
def Qjo_l:List LE:=[⟨none,0,⟨[(0,.one zB),(1,.one zB),(2,.one zB),(3,.one zB),(8,.one zB),(9,.one zB)],[],[],1,56,[]⟩,fun K k v=>Qjo_r0 v K (k .ret ⟨[(8,.one (.pv (I 0))),(9,.one (.kb false))],[],[],1,56,[]⟩) (fun x0 x1 x2 x3 x4 x5=>k (.exit 0) ⟨[(0,.one (.pv x0)),(1,.one (.pv x1)),(2,.one (.pv x2)),(3,.one (.pv x3)),(8,.one (.pv x4)),(9,.one (.pv x5))],[],[],1,56,[]⟩)⟩]
theorem Qjo_s:xaD [⟨[266],Qeb⟩,⟨[422],Qgg⟩] TT.nofl (kk [0,1,2,3,8,9,999999]) Qjo_l f392 Qjo_l:=⟨fun v K k h=>by
 apply xab h;exact fun v0 v1 v2 v3 v4 v5 h=>km h
 ,trivial⟩
theorem Qjo_w:EO ⟨[392],Qjo⟩:=oF (ec Qeb_w (ec Qgg_w en)) (keep:=(kk [0,1,2,3,8,9,999999])) (l:=Qjo_l) func392 Qjo_s fun av k h=>by
 unfold Qjo at h;split at h
 ·exact km h
 ·exact h.elim
def Qjp:GM
 | [.one a0,.one a1,.agg u0,.agg u1],k=>un 4 (fun a2 a3 a4 a5=>un 2 (fun a6 a7 =>
  call Qgd [.agg [a2,a3,a4,a5]] fun o0 =>
  call Qjo [.one (atP o0 0),.one a6,.one a1,.one a7] fun o1 =>
  xad (atP o1 1)
   (call Qfv [.agg [a2,a3,a4,a5]] fun o2 =>
   xad (atP o2 0)
    (call Qgj [.one a1,.one (atP o1 0)] fun o3 =>
    xac .eql (atP o3 0) a0 fun r4 =>
    rt [.sc] [r4] k)
    (rt [.sc] [(.bool false)] k))
   (rt [.sc] [(.bool false)] k)) u1) u0
 | _,_=>False
theorem Qjp_w:EO ⟨[341],Qjp⟩:=oFz (ec Qgd_w (ec Qjo_w (ec Qfv_w (ec Qgj_w en)))) func341 fun av k h=>by
 unfold Qjp at h;split at h
 ·apply xab h;clear h;intro a2 a3 a4 a5 h;apply xab h;clear h;intro a6 a7 h;exact km h
 ·exact h.elim
def Qjq_r0 (v:List PV) (K:List PV→Prop) (x0k:Prop) (x1k:Cur 5):Prop :=
 un 5 (fun v0 v1 v2 v3 v4 =>
  xac .lss v4 v3 fun r0 =>
  xad r0
   (xai 1 v0 v4 fun c1 =>
   xai 1 v1 v4 fun c2 =>
   xac .neq (atP c1 0) (atP c2 0) fun r3 =>
   xad r3
    (x0k)
    (xac .add v4 (I 1) fun r4 =>
    K [v0,v1,v2,v3,r4]))
   (x1k v0 v1 v2 v3 v4)) v
def Qjq:GM
 | [.one a0,.one a1],k =>
  xaK a0 fun r0 =>
  xaK a1 fun r1 =>
  xac .neq r0 r1 fun r2 =>
  xad r2
   (rt [.sc] [(.bool false)] k)
   (xaK a0 fun r3 =>
   lp (fun L w=>Qjq_r0 w L
    (rt [.sc] [(.bool false)] k)
    (fun q5 q6 q7 q8 q9=>rt [.sc] [(.bool true)] k)) [a0,a1,(.bool false),r3,(I 0)])
 | _,_=>False
def Qjq_l:List LE:=[⟨none,0,⟨[(0,.one zB),(1,.one zB),(4,.one zB),(12,.one zB),(13,.one zB)],[],[],0,26,[]⟩,fun K k v=>Qjq_r0 v K (k .ret ⟨[(4,.one (.kb false))],[],[],0,26,[]⟩) (fun x0 x1 x2 x3 x4=>k (.exit 0) ⟨[(0,.one (.pv x0)),(1,.one (.pv x1)),(4,.one (.pv x2)),(12,.one (.pv x3)),(13,.one (.pv x4))],[],[],0,26,[]⟩)⟩]
theorem Qjq_s:xaD [] TT (kk [0,1,4,12,13]) Qjq_l f424 Qjq_l:=⟨fun v K k h=>by
 apply xab h;exact fun v0 v1 v2 v3 v4 h=>km h
 ,trivial⟩
theorem Qjq_w:EO ⟨[424],Qjq⟩:=oN en (keep:=(kk [0,1,4,12,13])) (l:=Qjq_l) func424 Qjq_s fun av k h=>by
 unfold Qjq at h;split at h
 ·exact km h
 ·exact h.elim
def Qjr:GM
 | [.agg u0,.agg u1],k=>un 4 (fun a0 a1 a2 a3=>un 4 (fun a4 a5 a6 a7 =>
  xac .eql a0 a4 fun r0 =>
  xad r0
   (xac .eql a1 a5 fun r1 =>
   xad r1
    (xac .eql a2 a6 fun r2 =>
    xad r2
     (call Qjq [.one a3,.one a7] fun o3 =>
     rt [.sc] [(atP o3 0)] k)
     (rt [.sc] [(.bool false)] k))
    (rt [.sc] [(.bool false)] k))
   (rt [.sc] [(.bool false)] k)) u1) u0
 | _,_=>False
theorem Qjr_w:EO ⟨[394],Qjr⟩:=oFz (ec Qjq_w en) func394 fun av k h=>by
 unfold Qjr at h;split at h
 ·apply xab h;clear h;intro a0 a1 a2 a3 h;apply xab h;clear h;intro a4 a5 a6 a7 h;exact km h
 ·exact h.elim
def Qjs:GM
 | [.agg u0,.agg u1],k=>un 2 (fun a0 a1=>un 2 (fun a2 a3 =>
  xac .eql a0 a2 fun r0 =>
  xad r0
   (call Qfg [.one a1,.one a3] fun o1 =>
   rt [.sc] [(atP o1 0)] k)
   (rt [.sc] [(.bool false)] k)) u1) u0
 | _,_=>False
theorem Qjs_w:EO ⟨[395],Qjs⟩:=oFz (ec Qfg_w en) func395 fun av k h=>by
 unfold Qjs at h;split at h
 ·apply xab h;clear h;intro a0 a1 h;apply xab h;clear h;intro a2 a3 h;exact km h
 ·exact h.elim
def Qjt:GM
 | [.agg u0,.agg u1],k=>un 13 (fun a0 a1 a2 a3 a4 a5 a6 a7 a8 a9 a10 a11 a12=>un 13 (fun a13 a14 a15 a16 a17 a18 a19 a20 a21 a22 a23 a24 a25 =>
  xac .eql a0 a13 fun r0 =>
  xad r0
   (call Qjr [.agg [a1,a2,a3,a4],.agg [a14,a15,a16,a17]] fun o1 =>
   xad (atP o1 0)
    (call Qjr [.agg [a5,a6,a7,a8],.agg [a18,a19,a20,a21]] fun o2 =>
    xad (atP o2 0)
     (call Qjs [.agg [a9,a10],.agg [a22,a23]] fun o3 =>
     xad (atP o3 0)
      (call Qjs [.agg [a11,a12],.agg [a24,a25]] fun o4 =>
      rt [.sc] [(atP o4 0)] k)
      (rt [.sc] [(.bool false)] k))
     (rt [.sc] [(.bool false)] k))
    (rt [.sc] [(.bool false)] k))
   (rt [.sc] [(.bool false)] k)) u1) u0
 | _,_=>False
theorem Qjt_w:EO ⟨[342],Qjt⟩:=oFz (ec Qjr_w (ec Qjs_w en)) func342 fun av k h=>by
 unfold Qjt at h;split at h
 ·apply xab h;clear h;(repeat intro _);rename_i h;apply xab h;clear h;(repeat intro _);rename_i h;exact km h
 ·exact h.elim
def Qju:GM
 | [.agg u0],k=>un 4 (fun a0 a1 a2 a3 =>
  call Qjr [.agg [a0,a1,a2,a3],.agg [(.str ⟨#[]⟩),(I 0),(I 0),(.list 1 [])]] fun o0 =>
  rt [.sc] [(atP o0 0)] k) u0
 | _,_=>False
theorem Qju_w:EO ⟨[344],Qju⟩:=oFz (ec Qjr_w en) func344 fun av k h=>by
 unfold Qju at h;split at h
 ·apply xab h;clear h;intro a0 a1 a2 a3 h;exact km h
 ·exact h.elim
def Qjv:GM
 | [.agg u0],k=>un 2 (fun a0 a1 =>
  call Qjs [.agg [a0,a1],.agg [(I 0),(.list 1 [])]] fun o0 =>
  rt [.sc] [(atP o0 0)] k) u0
 | _,_=>False
theorem Qjv_w:EO ⟨[345],Qjv⟩:=oFz (ec Qjs_w en) func345 fun av k h=>by
 unfold Qjv at h;split at h
 ·apply xab h;clear h;intro a0 a1 h;exact km h
 ·exact h.elim
def Qjw:GM
 | [.one a0,.one a1,.agg u0,.agg u1,.one a8],k=>un 4 (fun a2 a3 a4 a5=>un 2 (fun a6 a7 =>
  xac .sub a1 (I 1) fun r0 =>
  call Qeb [.one a8,.one (I 0),.one r0] fun o1 =>
  unP .not (atP o1 0) fun r2 =>
  xad r2
   (call Qju [.agg [a2,a3,a4,a5]] fun o3 =>
   xad (atP o3 0)
    (call Qjv [.agg [a6,a7]] fun o4 =>
    rt [.sc] [(atP o4 0)] k)
    (rt [.sc] [(.bool false)] k))
   (call Qjp [.one a0,.one a1,.agg [a2,a3,a4,a5],.agg [a6,a7]] fun o5 =>
   xad (atP o5 0)
    (xac .eql a6 a8 fun r6 =>
    rt [.sc] [r6] k)
    (rt [.sc] [(.bool false)] k))) u1) u0
 | _,_=>False
theorem Qjw_w:EO ⟨[396],Qjw⟩:=oFz (ec Qeb_w (ec Qju_w (ec Qjv_w (ec Qjp_w en)))) func396 fun av k h=>by
 unfold Qjw at h;split at h
 ·apply xab h;clear h;intro a2 a3 a4 a5 h;apply xab h;clear h;intro a6 a7 h;exact km h
 ·exact h.elim
def Qjx:GM
 | [.one a0,.one a1,.one a2,.agg u0],k=>un 13 (fun a3 a4 a5 a6 a7 a8 a9 a10 a11 a12 a13 a14 a15 =>
  let F1:=xac .eql a3 a1 fun r13 =>
   xad r13
   (rt [.sc] [(.bool true)] k)
   (call Qfy [.one a8,.one a2] fun o14 =>
   xac .gtr (atP o14 0) (I 0) fun r15 =>
   rt [.sc] [r15] k)
  let F0:=xac .sub a3 (I 1) fun r7 =>
   call Qjw [.one a0,.one a1,.agg [a4,a5,a6,a7],.agg [a12,a13],.one r7] fun o8 =>
   unP .not (atP o8 0) fun r9 =>
   xad r9
   (rt [.sc] [(.bool false)] k)
   (call Qjw [.one a0,.one a1,.agg [a8,a9,a10,a11],.agg [a14,a15],.one a3] fun o10 =>
   unP .not (atP o10 0) fun r11 =>
   xad r11
   (rt [.sc] [(.bool false)] k)
   (xac .eql a3 (I 0) fun r12 =>
   xad r12
   (F1)
   (call Qfy [.one a4,.one a2] fun o16 =>
   xac .lss (atP o16 0) (I 0) fun r17 =>
   xad r17
   (F1)
   (rt [.sc] [(.bool false)] k))))
  call Qfq [.one a2] fun o0 =>
  unP .not (atP o0 0) fun r1 =>
  xad r1
   (rt [.sc] [(.bool false)] k)
   (call Qeb [.one a3,.one (I 0),.one a1] fun o2 =>
   unP .not (atP o2 0) fun r3 =>
   xad r3
    (rt [.sc] [(.bool false)] k)
    (xac .eql a1 (I 0) fun r4 =>
    xad r4
     (call Qgk [.one (.list 4 [])] fun o5 =>
     xac .neq a0 (atP o5 0) fun r6 =>
     xad r6
      (rt [.sc] [(.bool false)] k)
      (F0))
     (F0)))) u0
 | _,_=>False
theorem Qjx_w:EO ⟨[343],Qjx⟩:=oFz (ec Qfq_w (ec Qeb_w (ec Qgk_w (ec Qjw_w (ec Qfy_w en))))) func343 fun av k h=>by
 unfold Qjx at h;split at h
 ·apply xab h;clear h;(repeat intro _);rename_i h;exact km h
 ·exact h.elim
def Qjy:GM
 | [.agg u0,.one a16,.agg u1],k=>un 16 (fun a0 a1 a2 a3 a4 a5 a6 a7 a8 a9 a10 a11 a12 a13 a14 a15=>un 21 (fun a17 a18 a19 a20 a21 a22 a23 a24 a25 a26 a27 a28 a29 a30 a31 a32 a33 a34 a35 a36 a37 =>
  xad a18
   (xac .eql a19 a16 fun r0 =>
   xad r0
    (call Qjp [.one a6,.one a5,.agg [a19,a20,a21,a22],.agg [a23,a24]] fun o1 =>
    xad (atP o1 0)
     (call Qjt [.agg [a25,a26,a27,a28,a29,a30,a31,a32,a33,a34,a35,a36,a37],.agg [(I 0),(.str ⟨#[]⟩),(I 0),(I 0),(.list 1 []),(.str ⟨#[]⟩),(I 0),(I 0),(.list 1 []),(I 0),(.list 1 []),(I 0),(.list 1 [])]] fun o2 =>
     rt [.sc] [(atP o2 0)] k)
     (rt [.sc] [(.bool false)] k))
    (rt [.sc] [(.bool false)] k))
   (call Qjx [.one a6,.one a5,.one a16,.agg [a25,a26,a27,a28,a29,a30,a31,a32,a33,a34,a35,a36,a37]] fun o3 =>
   xad (atP o3 0)
    (call Qju [.agg [a19,a20,a21,a22]] fun o4 =>
    xad (atP o4 0)
     (call Qjv [.agg [a23,a24]] fun o5 =>
     rt [.sc] [(atP o5 0)] k)
     (rt [.sc] [(.bool false)] k))
    (rt [.sc] [(.bool false)] k))) u1) u0
 | _,_=>False
theorem Qjy_w:EO ⟨[290],Qjy⟩:=oFz (ec Qjp_w (ec Qjt_w (ec Qjx_w (ec Qju_w (ec Qjv_w en))))) func290 fun av k h=>by
 unfold Qjy at h;split at h
 ·apply xab h;clear h;(repeat intro _);rename_i h;apply xab h;clear h;(repeat intro _);rename_i h;exact km h
 ·exact h.elim
def Qjz:GM
 | [.one a0,.one a1,.agg u0,.one a23],k=>un 21 (fun a2 a3 a4 a5 a6 a7 a8 a9 a10 a11 a12 a13 a14 a15 a16 a17 a18 a19 a20 a21 a22 =>
  call Qjm [.one a2] fun o0 =>
  unP .not (atP o0 16) fun r1 =>
  xad r1
   (rt [.sc] [(I 3)] k)
   (xac .neq (atP o0 0) a0 fun r2 =>
   xad r2
    (rt [.sc] [(I 2)] k)
    (call Qjn [.agg [(atP o0 0),(atP o0 1),(atP o0 2),(atP o0 3),(atP o0 4),(atP o0 5),(atP o0 6),(atP o0 7),(atP o0 8),(atP o0 9),(atP o0 10),(atP o0 11),(atP o0 12),(atP o0 13),(atP o0 14),(atP o0 15)],.one a23] fun o3 =>
    unP .not (atP o3 0) fun r4 =>
    xad r4
     (rt [.sc] [(I 4)] k)
     (xad (atP o0 15)
      (rt [.sc] [(I 5)] k)
      (call Qjy [.agg [(atP o0 0),(atP o0 1),(atP o0 2),(atP o0 3),(atP o0 4),(atP o0 5),(atP o0 6),(atP o0 7),(atP o0 8),(atP o0 9),(atP o0 10),(atP o0 11),(atP o0 12),(atP o0 13),(atP o0 14),(atP o0 15)],.one a1,.agg [a2,a3,a4,a5,a6,a7,a8,a9,a10,a11,a12,a13,a14,a15,a16,a17,a18,a19,a20,a21,a22]] fun o5 =>
      unP .not (atP o5 0) fun r6 =>
      xad r6
       (rt [.sc] [(I 6)] k)
       (rt [.sc] [(I 1)] k)))))) u0
 | _,_=>False
theorem Qjz_w:EO ⟨[230],Qjz⟩:=oFz (ec Qjm_w (ec Qjn_w (ec Qjy_w en))) func230 fun av k h=>by
 unfold Qjz at h;split at h
 ·apply xab h;clear h;(repeat intro _);rename_i h;exact km h
 ·exact h.elim
def Qka:GM
 | [.one a0,.ro (.cells u0)],k=>un 1 (fun a1 =>
  xaK a0 fun r0 =>
  xac .gtr r0 (I 0) fun r1 =>
  xad r1
   (xai 17 a0 (I 0) fun c2 =>
   xac .eql (atP c2 0) a1 fun r3 =>
   rt [.sc] [r3] k)
   (rt [.sc] [(.bool false)] k)) u0
 | _,_=>False
theorem Qka_w:EO ⟨[387],Qka⟩:=oFz en func387 fun av k h=>by
 unfold Qka at h;split at h
 ·apply xab h;clear h;intro a1 h;exact km h
 ·exact h.elim
def Qkb_r0 (v:List PV) (K:List PV→Prop) (x0k:PV→Prop) (x1k:Cur 5):Prop :=
 un 5 (fun v0 v1 v2 v3 v4 =>
  xac .lss v4 v3 fun r0 =>
  xad r0
   (xai 1 v0 v4 fun c1 =>
   call Qka [.one (atP c1 0),.ro (.cells [v1])] fun o2 =>
   xad (atP o2 0)
    (x0k v4)
    (xac .add v4 (I 1) fun r3 =>
    K [v0,v1,v2,v3,r3]))
   (x1k v0 v1 v2 v3 v4)) v
def Qkb:GM
 | [.one a0,.fn 387 [.cells u0]],k=>un 1 (fun a1 =>
  xaK a0 fun r0 =>
  lp (fun L w=>Qkb_r0 w L
   (fun q4=>rt [.sc] [q4] k)
   (fun q5 q6 q7 q8 q9=>rt [.sc] [(I (-1))] k)) [a0,a1,(I 0),r0,(I 0)]) u0
 | _,_=>False
def Qkb_l:List LE:=[⟨none,0,⟨[(0,.one zB),(1,.one (.fn 387 [.ro (.cells [(.bool false)])])),(4,.one zB),(7,.one zB),(8,.one zB)],[],[],0,19,[]⟩,fun K k v=>Qkb_r0 v K (fun x0=>k .ret ⟨[(4,.one (.pv x0))],[],[],1,19,[]⟩) (fun x0 x1 x2 x3 x4=>k (.exit 0) ⟨[(0,.one (.pv x0)),(1,.one (.fn 387 [.ro (.cells [x1])])),(4,.one (.pv x2)),(7,.one (.pv x3)),(8,.one (.pv x4))],[],[],0,19,[]⟩)⟩]
theorem Qkb_s:xaD [⟨[387],Qka⟩] TT (kk [0,1,4,7,8]) Qkb_l f386 Qkb_l:=⟨fun v K k h=>by
 apply xab h;exact fun v0 v1 v2 v3 v4 h=>km h
 ,trivial⟩
theorem Qkb_w:EO ⟨[386,387],Qkb⟩:=oN (ec Qka_w en) (keep:=(kk [0,1,4,7,8])) (l:=Qkb_l) func386 Qkb_s fun av k h=>by
 unfold Qkb at h;split at h
 ·apply xab h;clear h;intro a1 h;exact km h
 ·exact h.elim
def Qkc:GM
 | [.agg u0,.one a2],k=>un 2 (fun a0 a1 =>
  call Qkb [.one a0,.fn 387 [.cells [a2]]] fun o0 =>
  rt [.sc] [(atP o0 0)] k) u0
 | _,_=>False
theorem Qkc_w:EO ⟨[335],Qkc⟩:=oFz (ec Qkb_w en) func335 fun av k h=>by
 unfold Qkc at h;split at h
 ·apply xab h;clear h;intro a0 a1 h;exact km h
 ·exact h.elim
def Qkd:GM
 | [.agg u0,.agg u1],k=>un 16 (fun a0 a1 a2 a3 a4 a5 a6 a7 a8 a9 a10 a11 a12 a13 a14 a15=>un 16 (fun a16 a17 a18 a19 a20 a21 a22 a23 a24 a25 a26 a27 a28 a29 a30 a31 =>
  call Qfh [.agg [a8,a9],.agg [a24,a25]] fun o0 =>
  xad (atP o0 0)
   (call Qfh [.agg [a10,a11],.agg [a26,a27]] fun o1 =>
   xad (atP o1 0)
    (call Qfh [.agg [a13,a14],.agg [a29,a30]] fun o2 =>
    xad (atP o2 0)
     (call Qes [.agg [a0,a1,a2,a3,a4,a5,a6,a7,a8,a9,a10,a11,a12,a13,a14,a15]] fun o3 =>
     call Qes [.agg [a16,a17,a18,a19,a20,a21,a22,a23,a24,a25,a26,a27,a28,a29,a30,a31]] fun o4 =>
     call Qfg [.one (atP o3 0),.one (atP o4 0)] fun o5 =>
     rt [.sc] [(atP o5 0)] k)
     (rt [.sc] [(.bool false)] k))
    (rt [.sc] [(.bool false)] k))
   (rt [.sc] [(.bool false)] k)) u1) u0
 | _,_=>False
theorem Qkd_w:EO ⟨[388],Qkd⟩:=oFz (ec Qfh_w (ec Qes_w (ec Qfg_w en))) func388 fun av k h=>by
 unfold Qkd at h;split at h
 ·apply xab h;clear h;(repeat intro _);rename_i h;apply xab h;clear h;(repeat intro _);rename_i h;exact km h
 ·exact h.elim
def Qke_r0 (v:List PV) (K:List PV→Prop) (x0k:Prop) (x1k:Cur 5):Prop :=
 un 5 (fun v0 v1 v2 v3 v4 =>
  xac .lss v4 v3 fun r0 =>
  xad r0
   (xai 17 v2 v4 fun c1 =>
   xai 17 v0 v4 fun c2 =>
   call Qkd [.agg (s16 c1),.agg (s16 c2)] fun o3 =>
   unP .not (atP o3 0) fun r4 =>
   xad r4
    (x0k)
    (xac .add v4 (I 1) fun r5 =>
    K [v0,v1,v2,v3,r5]))
   (x1k v0 v1 v2 v3 v4)) v
def Qke:GM
 | [.one a0,.one a1],k =>
  xaK a0 fun r0 =>
  xaK a1 fun r1 =>
  xac .gtr r0 r1 fun r2 =>
  xad r2
   (rt [.sc] [(.bool false)] k)
   (xaK a0 fun r3 =>
   lp (fun L w=>Qke_r0 w L
    (rt [.sc] [(.bool false)] k)
    (fun q6 q7 q8 q9 q10=>rt [.sc] [(.bool true)] k)) [a1,(.bool false),a0,r3,(I 0)])
 | _,_=>False
def Qke_l:List LE:=[⟨none,0,⟨[(1,.one zB),(4,.one zB),(12,.one zB),(13,.one zB),(14,.one zB)],[],[],0,29,[]⟩,fun K k v=>Qke_r0 v K (k .ret ⟨[(4,.one (.kb false))],[],[],2,29,[]⟩) (fun x0 x1 x2 x3 x4=>k (.exit 0) ⟨[(1,.one (.pv x0)),(4,.one (.pv x1)),(12,.one (.pv x2)),(13,.one (.pv x3)),(14,.one (.pv x4))],[],[],0,29,[]⟩)⟩]
theorem Qke_s:xaD [⟨[388],Qkd⟩] TT.nofl (kk [1,4,12,13,14,999999]) Qke_l f385 Qke_l:=⟨fun v K k h=>by
 apply xab h;exact fun v0 v1 v2 v3 v4 h=>km h
 ,trivial⟩
theorem Qke_w:EO ⟨[385],Qke⟩:=oF (ec Qkd_w en) (keep:=(kk [1,4,12,13,14,999999])) (l:=Qke_l) func385 Qke_s fun av k h=>by
 unfold Qke at h;split at h
 ·exact km h
 ·exact h.elim
def Qkf:GM
 | [.agg u0,.one a2],k=>un 2 (fun a0 a1 =>
  call Qfo [.one a2] fun o0 =>
  unP .not (atP o0 0) fun r1 =>
  xad r1
   (rt [.sc] [(I 6)] k)
   (xai 17 a2 (I 0) fun c2 =>
   call Qkc [.agg [a0,a1],.one (atP c2 0)] fun o3 =>
   xac .lss (atP o3 0) (I 0) fun r4 =>
   xad r4
    (rt [.sc] [(I 1)] k)
    (xai 1 a0 (atP o3 0) fun c5 =>
    call Qke [.one (atP c5 0),.one a2] fun o6 =>
    xai 1 a0 (atP o3 0) fun c7 =>
    call Qke [.one a2,.one (atP c7 0)] fun o8 =>
    xad (atP o6 0)
     (xad (atP o8 0)
      (rt [.sc] [(I 2)] k)
      (xad (atP o6 0)
       (rt [.sc] [(I 3)] k)
       (xad (atP o8 0)
        (rt [.sc] [(I 4)] k)
        (rt [.sc] [(I 5)] k))))
     (xad (atP o6 0)
      (rt [.sc] [(I 3)] k)
      (xad (atP o8 0)
       (rt [.sc] [(I 4)] k)
       (rt [.sc] [(I 5)] k)))))) u0
 | _,_=>False
theorem Qkf_w:EO ⟨[334],Qkf⟩:=oFz (ec Qfo_w (ec Qkc_w (ec Qke_w en))) func334 fun av k h=>by
 unfold Qkf at h;split at h
 ·apply xab h;clear h;intro a0 a1 h;exact km h
 ·exact h.elim
def Qkg_r0 (v:List PV) (K:List PV→Prop) (x0k:Cur 55):Prop :=
 un 55 (fun v0 v1 v2 v3 v4 v5 v6 v7 v8 v9 v10 v11 v12 v13 v14 v15 v16 v17 v18 v19 v20 v21 v22 v23 v24 v25 v26 v27 v28 v29 v30 v31 v32 v33 v34 v35 v36 v37 v38 v39 v40 v41 v42 v43 v44 v45 v46 v47 v48 v49 v50 v51 v52 v53 v54 =>
  xai 17 v0 v3 fun c0 =>
  xai 17 v1 v3 fun c1 =>
  call Qkd [.agg [(atP c0 0),(atP c0 1),(atP c0 2),(atP c0 3),(atP c0 4),(atP c0 5),(atP c0 6),(atP c0 7),(atP c0 8),(atP c0 9),(atP c0 10),(atP c0 11),(atP c0 12),(atP c0 13),(atP c0 14),(atP c0 15)],.agg [(atP c1 0),(atP c1 1),(atP c1 2),(atP c1 3),(atP c1 4),(atP c1 5),(atP c1 6),(atP c1 7),(atP c1 8),(atP c1 9),(atP c1 10),(atP c1 11),(atP c1 12),(atP c1 13),(atP c1 14),(atP c1 15)]] fun o2 =>
  xad (atP o2 0)
   (xac .add v3 (I 1) fun r3 =>
   K [v0,v1,v2,r3,v4,v5,v6,v7,v8,v9,v10,v11,v12,v13,v14,v15,v16,v17,v18,v19,v20,v21,v22,v23,v24,v25,v26,v27,v28,v29,v30,v31,v32,v33,v34,v35,v36,v37,v38,v39,v40,v41,v42,v43,v44,v45,v46,v47,v48,v49,v50,v51,v52,v53,v54])
   (x0k v0 v1 v2 v3 v4 v5 v6 v7 v8 v9 v10 v11 v12 v13 v14 v15 v16 v17 v18 v19 v20 v21 v22 v23 v24 v25 v26 v27 v28 v29 v30 v31 v32 v33 v34 v35 v36 v37 v38 v39 v40 v41 v42 v43 v44 v45 v46 v47 v48 v49 v50 v51 v52 v53 v54)) v
def Qkg:GM
 | [.one a0,.one a1],k =>
  call Qfo [.one a0] fun o0 =>
  unP .not (atP o0 0) fun r1 =>
  xad r1
   (rt g7 [(I 0),(I 0),(I 0),(I 0),(I 0),(I 0),(I 0),(I 0),(.list 1 []),(I 0),(.list 1 []),(I 0),(I 0),(.list 1 []),(I 0),(.bool false),(.list 2 []),(I 0),(I 0),(I 0),(I 0),(I 0),(I 0),(I 0),(I 0),(.list 1 []),(I 0),(.list 1 []),(I 0),(I 0),(.list 1 []),(I 0),(.bool false),(.list 2 []),(I 0),(I 0),(I 0),(I 0),(I 0),(I 0),(I 0),(I 0),(.list 1 []),(I 0),(.list 1 []),(I 0),(I 0),(.list 1 []),(I 0),(.bool false),(.list 2 []),(.bool false)] k)
   (call Qfo [.one a1] fun o2 =>
   unP .not (atP o2 0) fun r3 =>
   xad r3
    (rt g7 [(I 0),(I 0),(I 0),(I 0),(I 0),(I 0),(I 0),(I 0),(.list 1 []),(I 0),(.list 1 []),(I 0),(I 0),(.list 1 []),(I 0),(.bool false),(.list 2 []),(I 0),(I 0),(I 0),(I 0),(I 0),(I 0),(I 0),(I 0),(.list 1 []),(I 0),(.list 1 []),(I 0),(I 0),(.list 1 []),(I 0),(.bool false),(.list 2 []),(I 0),(I 0),(I 0),(I 0),(I 0),(I 0),(I 0),(I 0),(.list 1 []),(I 0),(.list 1 []),(I 0),(I 0),(.list 1 []),(I 0),(.bool false),(.list 2 []),(.bool false)] k)
    (xai 17 a0 (I 0) fun c4 =>
    xai 17 a1 (I 0) fun c5 =>
    xac .neq (atP c4 0) (atP c5 0) fun r6 =>
    xad r6
     (rt g7 [(I 0),(I 0),(I 0),(I 0),(I 0),(I 0),(I 0),(I 0),(.list 1 []),(I 0),(.list 1 []),(I 0),(I 0),(.list 1 []),(I 0),(.bool false),(.list 2 []),(I 0),(I 0),(I 0),(I 0),(I 0),(I 0),(I 0),(I 0),(.list 1 []),(I 0),(.list 1 []),(I 0),(I 0),(.list 1 []),(I 0),(.bool false),(.list 2 []),(I 0),(I 0),(I 0),(I 0),(I 0),(I 0),(I 0),(I 0),(.list 1 []),(I 0),(.list 1 []),(I 0),(I 0),(.list 1 []),(I 0),(.bool false),(.list 2 []),(.bool false)] k)
     (call Qke [.one a0,.one a1] fun o7 =>
     xad (atP o7 0)
      (rt g7 [(I 0),(I 0),(I 0),(I 0),(I 0),(I 0),(I 0),(I 0),(.list 1 []),(I 0),(.list 1 []),(I 0),(I 0),(.list 1 []),(I 0),(.bool false),(.list 2 []),(I 0),(I 0),(I 0),(I 0),(I 0),(I 0),(I 0),(I 0),(.list 1 []),(I 0),(.list 1 []),(I 0),(I 0),(.list 1 []),(I 0),(.bool false),(.list 2 []),(I 0),(I 0),(I 0),(I 0),(I 0),(I 0),(I 0),(I 0),(.list 1 []),(I 0),(.list 1 []),(I 0),(I 0),(.list 1 []),(I 0),(.bool false),(.list 2 []),(.bool false)] k)
      (call Qke [.one a1,.one a0] fun o8 =>
      xad (atP o8 0)
       (rt g7 [(I 0),(I 0),(I 0),(I 0),(I 0),(I 0),(I 0),(I 0),(.list 1 []),(I 0),(.list 1 []),(I 0),(I 0),(.list 1 []),(I 0),(.bool false),(.list 2 []),(I 0),(I 0),(I 0),(I 0),(I 0),(I 0),(I 0),(I 0),(.list 1 []),(I 0),(.list 1 []),(I 0),(I 0),(.list 1 []),(I 0),(.bool false),(.list 2 []),(I 0),(I 0),(I 0),(I 0),(I 0),(I 0),(I 0),(I 0),(.list 1 []),(I 0),(.list 1 []),(I 0),(I 0),(.list 1 []),(I 0),(.bool false),(.list 2 []),(.bool false)] k)
       (lp (fun L w=>Qkg_r0 w L
        (fun q9 q10 q11 q12 q13 q14 q15 q16 q17 q18 q19 q20 q21 q22 q23 q24 q25 q26 q27 q28 q29 q30 q31 q32 q33 q34 q35 q36 q37 q38 q39 q40 q41 q42 q43 q44 q45 q46 q47 q48 q49 q50 q51 q52 q53 q54 q55 q56 q57 q58 q59 q60 q61 q62 q63=>xai 17 q9 q12 fun c64 =>
         call Qds [.agg [(atP c64 0),(atP c64 1),(atP c64 2),(atP c64 3),(atP c64 4),(atP c64 5),(atP c64 6),(atP c64 7),(atP c64 8),(atP c64 9),(atP c64 10),(atP c64 11),(atP c64 12),(atP c64 13),(atP c64 14),(atP c64 15),(atP c64 16)]] fun o65 =>
         xai 17 q10 q12 fun c66 =>
         call Qds [.agg [(atP c66 0),(atP c66 1),(atP c66 2),(atP c66 3),(atP c66 4),(atP c66 5),(atP c66 6),(atP c66 7),(atP c66 8),(atP c66 9),(atP c66 10),(atP c66 11),(atP c66 12),(atP c66 13),(atP c66 14),(atP c66 15),(atP c66 16)]] fun o67 =>
         xac .gtr q12 (I 0) fun r68 =>
         xad r68
          (xac .sub q12 (I 1) fun r69 =>
          xai 17 q9 r69 fun c70 =>
          call Qds [.agg [(atP c70 0),(atP c70 1),(atP c70 2),(atP c70 3),(atP c70 4),(atP c70 5),(atP c70 6),(atP c70 7),(atP c70 8),(atP c70 9),(atP c70 10),(atP c70 11),(atP c70 12),(atP c70 13),(atP c70 14),(atP c70 15),(atP c70 16)]] fun o71 =>
          rt g7 [(atP o71 0),(atP o71 1),(atP o71 2),(atP o71 3),(atP o71 4),(atP o71 5),(atP o71 6),(atP o71 7),(atP o71 8),(atP o71 9),(atP o71 10),(atP o71 11),(atP o71 12),(atP o71 13),(atP o71 14),(atP o71 15),(atP o71 16),(atP o65 0),(atP o65 1),(atP o65 2),(atP o65 3),(atP o65 4),(atP o65 5),(atP o65 6),(atP o65 7),(atP o65 8),(atP o65 9),(atP o65 10),(atP o65 11),(atP o65 12),(atP o65 13),(atP o65 14),(atP o65 15),(atP o65 16),(atP o67 0),(atP o67 1),(atP o67 2),(atP o67 3),(atP o67 4),(atP o67 5),(atP o67 6),(atP o67 7),(atP o67 8),(atP o67 9),(atP o67 10),(atP o67 11),(atP o67 12),(atP o67 13),(atP o67 14),(atP o67 15),(atP o67 16),(.bool true)] k)
          (rt g7 [(I 0),(I 0),(I 0),(I 0),(I 0),(I 0),(I 0),(I 0),(.list 1 []),(I 0),(.list 1 []),(I 0),(I 0),(.list 1 []),(I 0),(.bool false),(.list 2 []),(atP o65 0),(atP o65 1),(atP o65 2),(atP o65 3),(atP o65 4),(atP o65 5),(atP o65 6),(atP o65 7),(atP o65 8),(atP o65 9),(atP o65 10),(atP o65 11),(atP o65 12),(atP o65 13),(atP o65 14),(atP o65 15),(atP o65 16),(atP o67 0),(atP o67 1),(atP o67 2),(atP o67 3),(atP o67 4),(atP o67 5),(atP o67 6),(atP o67 7),(atP o67 8),(atP o67 9),(atP o67 10),(atP o67 11),(atP o67 12),(atP o67 13),(atP o67 14),(atP o67 15),(atP o67 16),(.bool true)] k))) [a0,a1,(.bool false),(I 0),(I 0),(I 0),(I 0),(I 0),(I 0),(I 0),(I 0),(I 0),(I 0),(I 0),(I 0),(I 0),(.bool false),(I 0),(I 0),(I 0),(I 0),(I 0),(I 0),(I 0),(I 0),(I 0),(I 0),(I 0),(I 0),(.bool false),(I 0),(I 0),(I 0),(I 0),(I 0),(I 0),(I 0),(I 0),(I 0),(I 0),(I 0),(I 0),(.bool false),(.list 2 []),(.list 1 []),(.list 1 []),(.list 1 []),(.list 2 []),(.list 1 []),(.list 1 []),(.list 1 []),(.list 2 []),(.list 1 []),(.list 1 []),(.list 1 [])])))))
 | _,_=>False
def Qkg_l:List LE:=[⟨none,0,⟨[(0,.one zB),(1,.one zB),(4,.one (.ptr 0 0)),(5,.one zB),(6,.one zB)],[(0,[zB,zB,zB,zB,zB,zB,zB,zB,.own 5,zB,.own 6,zB,zB,.own 7,zB,zB,.own 8,zB,zB,zB,zB,zB,zB,zB,zB,.own 9,zB,.own 10,zB,zB,.own 11,zB,zB,.own 12,zB,zB,zB,zB,zB,zB,zB,zB,.own 13,zB,.own 14,zB,zB,.own 15,zB,zB,.own 16])],[(16,⟨.deep,317,2,(.bool false)⟩),(15,⟨.deep,3,1,(.bool false)⟩),(14,⟨.deep,3,1,(.bool false)⟩),(13,⟨.deep,3,1,(.bool false)⟩),(12,⟨.deep,317,2,(.bool false)⟩),(11,⟨.deep,3,1,(.bool false)⟩),(10,⟨.deep,3,1,(.bool false)⟩),(9,⟨.deep,3,1,(.bool false)⟩),(8,⟨.deep,317,2,(.bool false)⟩),(7,⟨.deep,3,1,(.bool false)⟩),(6,⟨.deep,3,1,(.bool false)⟩),(5,⟨.deep,3,1,(.bool false)⟩)],17,74,[]⟩,fun K k v=>Qkg_r0 v K (fun x0 x1 x2 x3 x4 x5 x6 x7 x8 x9 x10 x11 x12 x13 x14 x15 x16 x17 x18 x19 x20 x21 x22 x23 x24 x25 x26 x27 x28 x29 x30 x31 x32 x33 x34 x35 x36 x37 x38 x39 x40 x41 x42 x43 x44 x45 x46 x47 x48 x49 x50 x51 x52 x53 x54=>k (.exit 0) ⟨[(0,.one (.pv x0)),(1,.one (.pv x1)),(4,.one (.ptr 0 0)),(5,.one (.pv x2)),(6,.one (.pv x3))],[(0,[.pv x4,.pv x5,.pv x6,.pv x7,.pv x8,.pv x9,.pv x10,.pv x11,.own 5,.pv x12,.own 6,.pv x13,.pv x14,.own 7,.pv x15,.pv x16,.own 8,.pv x17,.pv x18,.pv x19,.pv x20,.pv x21,.pv x22,.pv x23,.pv x24,.own 9,.pv x25,.own 10,.pv x26,.pv x27,.own 11,.pv x28,.pv x29,.own 12,.pv x30,.pv x31,.pv x32,.pv x33,.pv x34,.pv x35,.pv x36,.pv x37,.own 13,.pv x38,.own 14,.pv x39,.pv x40,.own 15,.pv x41,.pv x42,.own 16])],[(16,⟨.deep,317,2,x43⟩),(15,⟨.deep,3,1,x44⟩),(14,⟨.deep,3,1,x45⟩),(13,⟨.deep,3,1,x46⟩),(12,⟨.deep,317,2,x47⟩),(11,⟨.deep,3,1,x48⟩),(10,⟨.deep,3,1,x49⟩),(9,⟨.deep,3,1,x50⟩),(8,⟨.deep,317,2,x51⟩),(7,⟨.deep,3,1,x52⟩),(6,⟨.deep,3,1,x53⟩),(5,⟨.deep,3,1,x54⟩)],18,74,[]⟩)⟩]
theorem Qkg_s:xaD [⟨[267],Qfo⟩,⟨[385],Qke⟩,⟨[388],Qkd⟩,⟨[305],Qds⟩] TT.nofl (kk [0,1,4,5,6,999999]) Qkg_l f336 Qkg_l:=⟨fun v K k h=>by
 apply xab h;(repeat intro _);rename_i h;exact km h
 ,trivial⟩
theorem Qkg_w:EO ⟨[336],Qkg⟩:=oF (ec Qfo_w (ec Qke_w (ec Qkd_w (ec Qds_w en)))) (keep:=(kk [0,1,4,5,6,999999])) (l:=Qkg_l) func336 Qkg_s fun av k h=>by
 unfold Qkg at h;split at h
 ·exact km h
 ·exact h.elim
def Qkh:GM
 | [.agg u0,.one a2],k=>un 2 (fun a0 a1 =>
  call Qdx [.agg [a0,a1]] fun o0 =>
  call Qkf [.agg [a0,a1],.one a2] fun o1 =>
  xac .eql (atP o1 0) (I 1) fun r2 =>
  xad r2
   (xaK a0 fun r3 =>
   xac .geq r3 (I 8) fun r4 =>
   xad r4
    (rt [.own true 90 1,.own true 259 51,.sc] [(atP o0 0),(atP o0 1),(I 6)] k)
    (call Qdt [.one a2] fun o5 =>
    (1=1)∧(1≤16777216)∧(1=1)∧(0=0)∧(1=1)∧(xae [.nil 257 17] [.own 6])∧xbA 1 (atP o0 0) (.list 1 [[(atP o5 0)]]) fun r6 =>
    rt [.own true 90 1,.own true 259 51,.sc] [r6,(atP o0 1),(atP o1 0)] k))
   (xac .eql (atP o1 0) (I 3) fun r7 =>
   xad r7
    (xai 17 a2 (I 0) fun c8 =>
    call Qkc [.agg [a0,a1],.one (atP c8 0)] fun o9 =>
    call Qdt [.one a2] fun o10 =>
    xdA 1 (atP o0 0) (atP o9 0) fun n11 =>
    (xae [.nil 257 17] [.own 7])∧xlN (atP o0 0) n11 0 [(atP o10 0)] fun r12 =>
    rt [.own true 90 1,.own true 259 51,.sc] [r12,(atP o0 1),(atP o1 0)] k)
    (xac .eql (atP o1 0) (I 5) fun r13 =>
    xad r13
     (xai 17 a2 (I 0) fun c14 =>
     call Qkc [.agg [a0,a1],.one (atP c14 0)] fun o15 =>
     xai 1 a0 (atP o15 0) fun c16 =>
     call Qkg [.one (atP c16 0),.one a2] fun o17 =>
     xad (atP o17 51)
      (xaK a1 fun r18 =>
      xac .lss r18 (I 8) fun r19 =>
      xad r19
       ((1=1)∧(51≤16777216)∧(51=51)∧(0=0)∧(51=51)∧(xae [.pv (I 0),.pv (I 0),.pv (I 0),.pv (I 0),.pv (I 0),.pv (I 0),.pv (I 0),.pv (I 0),.nil 3 1,.pv (I 0),.nil 3 1,.pv (I 0),.pv (I 0),.nil 3 1,.pv (I 0),zB,.nil 317 2,.pv (I 0),.pv (I 0),.pv (I 0),.pv (I 0),.pv (I 0),.pv (I 0),.pv (I 0),.pv (I 0),.nil 3 1,.pv (I 0),.nil 3 1,.pv (I 0),.pv (I 0),.nil 3 1,.pv (I 0),zB,.nil 317 2,.pv (I 0),.pv (I 0),.pv (I 0),.pv (I 0),.pv (I 0),.pv (I 0),.pv (I 0),.pv (I 0),.nil 3 1,.pv (I 0),.nil 3 1,.pv (I 0),.pv (I 0),.nil 3 1,.pv (I 0),zB,.nil 317 2] [.pv (atP o17 0),.pv (atP o17 1),.pv (atP o17 2),.pv (atP o17 3),.pv (atP o17 4),.pv (atP o17 5),.pv (atP o17 6),.pv (atP o17 7),.own 15,.pv (atP o17 9),.own 17,.pv (atP o17 11),.pv (atP o17 12),.own 20,.pv (atP o17 14),.pv (atP o17 15),.own 23,.pv (atP o17 17),.pv (atP o17 18),.pv (atP o17 19),.pv (atP o17 20),.pv (atP o17 21),.pv (atP o17 22),.pv (atP o17 23),.pv (atP o17 24),.own 32,.pv (atP o17 26),.own 34,.pv (atP o17 28),.pv (atP o17 29),.own 37,.pv (atP o17 31),.pv (atP o17 32),.own 40,.pv (atP o17 34),.pv (atP o17 35),.pv (atP o17 36),.pv (atP o17 37),.pv (atP o17 38),.pv (atP o17 39),.pv (atP o17 40),.pv (atP o17 41),.own 49,.pv (atP o17 43),.own 51,.pv (atP o17 45),.pv (atP o17 46),.own 54,.pv (atP o17 48),.pv (atP o17 49),.own 57])∧xbA 51 (atP o0 1) (.list 51 [(s51 o17)]) fun r20 =>
       rt [.own true 90 1,.own true 259 51,.sc] [(atP o0 0),r20,(atP o1 0)] k)
       (rt [.own true 90 1,.own true 259 51,.sc] [(atP o0 0),(atP o0 1),(atP o1 0)] k))
      (rt [.own true 90 1,.own true 259 51,.sc] [(atP o0 0),(atP o0 1),(atP o1 0)] k))
     (rt [.own true 90 1,.own true 259 51,.sc] [(atP o0 0),(atP o0 1),(atP o1 0)] k)))) u0
 | _,_=>False
theorem Qkh_w:EO ⟨[286],Qkh⟩:=oFz (ec Qdx_w (ec Qkf_w (ec Qdt_w (ec Qkc_w (ec Qkg_w en))))) func286 fun av k h=>by
 unfold Qkh at h;split at h
 ·apply xab h;clear h;intro a0 a1 h;exact km h
 ·exact h.elim
def Qki_r0 (v:List PV) (K:List PV→Prop) (x0k:Prop) (x1k:Cur 5):Prop :=
 un 5 (fun v0 v1 v2 v3 v4 =>
  xac .lss v4 v3 fun r0 =>
  xad r0
   (xai 2 v0 v4 fun c1 =>
   xai 2 v1 v4 fun c2 =>
   (xet [.pv (I 0),.pv (I 0)] [(atP c1 0),(atP c1 1)])∧(xet [.pv (I 0),.pv (I 0)] [(atP c2 0),(atP c2 1)])∧xsx .neq [(atP c1 0),(atP c1 1)] [(atP c2 0),(atP c2 1)] fun r3 =>
   xad r3
    (x0k)
    (xac .add v4 (I 1) fun r4 =>
    K [v0,v1,v2,v3,r4]))
   (x1k v0 v1 v2 v3 v4)) v
def Qki:GM
 | [.one a0,.one a1],k =>
  xaK a0 fun r0 =>
  xaK a1 fun r1 =>
  xac .neq r0 r1 fun r2 =>
  xad r2
   (rt [.sc] [(.bool false)] k)
   (xaK a0 fun r3 =>
   lp (fun L w=>Qki_r0 w L
    (rt [.sc] [(.bool false)] k)
    (fun q5 q6 q7 q8 q9=>rt [.sc] [(.bool true)] k)) [a0,a1,(.bool false),r3,(I 0)])
 | _,_=>False
def Qki_l:List LE:=[⟨none,0,⟨[(0,.one zB),(1,.one zB),(4,.one zB),(12,.one zB),(13,.one zB)],[],[],0,26,[]⟩,fun K k v=>Qki_r0 v K (k .ret ⟨[(4,.one (.kb false))],[],[],0,26,[]⟩) (fun x0 x1 x2 x3 x4=>k (.exit 0) ⟨[(0,.one (.pv x0)),(1,.one (.pv x1)),(4,.one (.pv x2)),(12,.one (.pv x3)),(13,.one (.pv x4))],[],[],0,26,[]⟩)⟩]
theorem Qki_s:xaD [] TT (kk [0,1,4,12,13]) Qki_l f429 Qki_l:=⟨fun v K k h=>by
 apply xab h;exact fun v0 v1 v2 v3 v4 h=>km h
 ,trivial⟩
theorem Qki_w:EO ⟨[429],Qki⟩:=oN en (keep:=(kk [0,1,4,12,13])) (l:=Qki_l) func429 Qki_s fun av k h=>by
 unfold Qki at h;split at h
 ·exact km h
 ·exact h.elim
def Qkj:GM
 | [.agg u0,.agg u1],k=>un 17 (fun a0 a1 a2 a3 a4 a5 a6 a7 a8 a9 a10 a11 a12 a13 a14 a15 a16=>un 17 (fun a17 a18 a19 a20 a21 a22 a23 a24 a25 a26 a27 a28 a29 a30 a31 a32 a33 =>
  call Qkd [.agg [a0,a1,a2,a3,a4,a5,a6,a7,a8,a9,a10,a11,a12,a13,a14,a15],.agg [a17,a18,a19,a20,a21,a22,a23,a24,a25,a26,a27,a28,a29,a30,a31,a32]] fun o0 =>
  xad (atP o0 0)
   (call Qki [.one a16,.one a33] fun o1 =>
   rt [.sc] [(atP o1 0)] k)
   (rt [.sc] [(.bool false)] k)) u1) u0
 | _,_=>False
theorem Qkj_w:EO ⟨[421],Qkj⟩:=oFz (ec Qkd_w (ec Qki_w en)) func421 fun av k h=>by
 unfold Qkj at h;split at h
 ·apply xab h;clear h;(repeat intro _);rename_i h;apply xab h;clear h;(repeat intro _);rename_i h;exact km h
 ·exact h.elim
def Qkk:GM
 | [.agg u0],k=>un 51 (fun a0 a1 a2 a3 a4 a5 a6 a7 a8 a9 a10 a11 a12 a13 a14 a15 a16 a17 a18 a19 a20 a21 a22 a23 a24 a25 a26 a27 a28 a29 a30 a31 a32 a33 a34 a35 a36 a37 a38 a39 a40 a41 a42 a43 a44 a45 a46 a47 a48 a49 a50 =>
  call Qkd [.agg [a17,a18,a19,a20,a21,a22,a23,a24,a25,a26,a27,a28,a29,a30,a31,a32],.agg [a34,a35,a36,a37,a38,a39,a40,a41,a42,a43,a44,a45,a46,a47,a48,a49]] fun o0 =>
  xad (atP o0 0)
   (rt [.sc] [(.bool false)] k)
   (call Qkj [.agg [a0,a1,a2,a3,a4,a5,a6,a7,a8,a9,a10,a11,a12,a13,a14,a15,a16],.agg [(I 0),(I 0),(I 0),(I 0),(I 0),(I 0),(I 0),(I 0),(.list 1 []),(I 0),(.list 1 []),(I 0),(I 0),(.list 1 []),(I 0),(.bool false),(.list 2 [])]] fun o1 =>
   xad (atP o1 0)
    (call Qfc [.agg [a17,a18,a19,a20,a21,a22,a23,a24,a25,a26,a27,a28,a29,a30,a31,a32,a33]] fun o2 =>
    xad (atP o2 0)
     (call Qfc [.agg [a34,a35,a36,a37,a38,a39,a40,a41,a42,a43,a44,a45,a46,a47,a48,a49,a50]] fun o3 =>
     xad (atP o3 0)
      (xac .eql a17 a34 fun r4 =>
      rt [.sc] [r4] k)
      (rt [.sc] [(.bool false)] k))
     (rt [.sc] [(.bool false)] k))
    (call Qfm [.agg [a0,a1,a2,a3,a4,a5,a6,a7,a8,a9,a10,a11,a12,a13,a14,a15],.agg [a17,a18,a19,a20,a21,a22,a23,a24,a25,a26,a27,a28,a29,a30,a31,a32,a33]] fun o5 =>
    xad (atP o5 0)
     (call Qfm [.agg [a0,a1,a2,a3,a4,a5,a6,a7,a8,a9,a10,a11,a12,a13,a14,a15],.agg [a34,a35,a36,a37,a38,a39,a40,a41,a42,a43,a44,a45,a46,a47,a48,a49,a50]] fun o6 =>
     rt [.sc] [(atP o6 0)] k)
     (rt [.sc] [(.bool false)] k)))) u0
 | _,_=>False
theorem Qkk_w:EO ⟨[390],Qkk⟩:=oFz (ec Qkd_w (ec Qkj_w (ec Qfc_w (ec Qfm_w en)))) func390 fun av k h=>by
 unfold Qkk at h;split at h
 ·apply xab h;clear h;(repeat intro _);rename_i h;exact km h
 ·exact h.elim
def Qkl:GM
 | [.agg u0],k=>un 51 (fun a0 a1 a2 a3 a4 a5 a6 a7 a8 a9 a10 a11 a12 a13 a14 a15 a16 a17 a18 a19 a20 a21 a22 a23 a24 a25 a26 a27 a28 a29 a30 a31 a32 a33 a34 a35 a36 a37 a38 a39 a40 a41 a42 a43 a44 a45 a46 a47 a48 a49 a50 =>
  call Qkk [.agg [a0,a1,a2,a3,a4,a5,a6,a7,a8,a9,a10,a11,a12,a13,a14,a15,a16,a17,a18,a19,a20,a21,a22,a23,a24,a25,a26,a27,a28,a29,a30,a31,a32,a33,a34,a35,a36,a37,a38,a39,a40,a41,a42,a43,a44,a45,a46,a47,a48,a49,a50]] fun o0 =>
  unP .not (atP o0 0) fun r1 =>
  xad r1
   (rt [.sc] [(I (-1))] k)
   (rt [.sc] [a17] k)) u0
 | _,_=>False
theorem Qkl_w:EO ⟨[339],Qkl⟩:=oFz (ec Qkk_w en) func339 fun av k h=>by
 unfold Qkl at h;split at h
 ·apply xab h;clear h;(repeat intro _);rename_i h;exact km h
 ·exact h.elim
def Qkm:GM
 | [.agg u0,.ro (.cells u1)],k=>un 51 (fun a0 a1 a2 a3 a4 a5 a6 a7 a8 a9 a10 a11 a12 a13 a14 a15 a16 a17 a18 a19 a20 a21 a22 a23 a24 a25 a26 a27 a28 a29 a30 a31 a32 a33 a34 a35 a36 a37 a38 a39 a40 a41 a42 a43 a44 a45 a46 a47 a48 a49 a50=>un 1 (fun a51 =>
  call Qkl [.agg [a0,a1,a2,a3,a4,a5,a6,a7,a8,a9,a10,a11,a12,a13,a14,a15,a16,a17,a18,a19,a20,a21,a22,a23,a24,a25,a26,a27,a28,a29,a30,a31,a32,a33,a34,a35,a36,a37,a38,a39,a40,a41,a42,a43,a44,a45,a46,a47,a48,a49,a50]] fun o0 =>
  xac .eql (atP o0 0) a51 fun r1 =>
  rt [.sc] [r1] k) u1) u0
 | _,_=>False
theorem Qkm_w:EO ⟨[338],Qkm⟩:=oFz (ec Qkl_w en) func338 fun av k h=>by
 unfold Qkm at h;split at h
 ·apply xab h;clear h;(repeat intro _);rename_i h;apply xab h;clear h;intro a51 h;exact km h
 ·exact h.elim
def Qkn_r0 (v:List PV) (K:List PV→Prop) (x0k:PV→Prop) (x1k:Cur 5):Prop :=
 un 5 (fun v0 v1 v2 v3 v4 =>
  xac .lss v4 v3 fun r0 =>
  xad r0
   (xai 51 v0 v4 fun c1 =>
   call Qkm [.agg [(atP c1 0),(atP c1 1),(atP c1 2),(atP c1 3),(atP c1 4),(atP c1 5),(atP c1 6),(atP c1 7),(atP c1 8),(atP c1 9),(atP c1 10),(atP c1 11),(atP c1 12),(atP c1 13),(atP c1 14),(atP c1 15),(atP c1 16),(atP c1 17),(atP c1 18),(atP c1 19),(atP c1 20),(atP c1 21),(atP c1 22),(atP c1 23),(atP c1 24),(atP c1 25),(atP c1 26),(atP c1 27),(atP c1 28),(atP c1 29),(atP c1 30),(atP c1 31),(atP c1 32),(atP c1 33),(atP c1 34),(atP c1 35),(atP c1 36),(atP c1 37),(atP c1 38),(atP c1 39),(atP c1 40),(atP c1 41),(atP c1 42),(atP c1 43),(atP c1 44),(atP c1 45),(atP c1 46),(atP c1 47),(atP c1 48),(atP c1 49),(atP c1 50)],.ro (.cells [v1])] fun o2 =>
   xad (atP o2 0)
    (x0k v4)
    (xac .add v4 (I 1) fun r3 =>
    K [v0,v1,v2,v3,r3]))
   (x1k v0 v1 v2 v3 v4)) v
def Qkn:GM
 | [.one a0,.fn 338 [.cells u0]],k=>un 1 (fun a1 =>
  xaK a0 fun r0 =>
  lp (fun L w=>Qkn_r0 w L
   (fun q4=>rt [.sc] [q4] k)
   (fun q5 q6 q7 q8 q9=>rt [.sc] [(I (-1))] k)) [a0,a1,(I 0),r0,(I 0)]) u0
 | _,_=>False
def Qkn_l:List LE:=[⟨none,0,⟨[(0,.one zB),(1,.one (.fn 338 [.ro (.cells [(.bool false)])])),(4,.one zB),(7,.one zB),(8,.one zB)],[],[],0,19,[]⟩,fun K k v=>Qkn_r0 v K (fun x0=>k .ret ⟨[(4,.one (.pv x0))],[],[],1,19,[]⟩) (fun x0 x1 x2 x3 x4=>k (.exit 0) ⟨[(0,.one (.pv x0)),(1,.one (.fn 338 [.ro (.cells [x1])])),(4,.one (.pv x2)),(7,.one (.pv x3)),(8,.one (.pv x4))],[],[],0,19,[]⟩)⟩]
theorem Qkn_s:xaD [⟨[338],Qkm⟩] TT (kk [0,1,4,7,8]) Qkn_l f389 Qkn_l:=⟨fun v K k h=>by
 apply xab h;exact fun v0 v1 v2 v3 v4 h=>km h
 ,trivial⟩
theorem Qkn_w:EO ⟨[389,338],Qkn⟩:=oN (ec Qkm_w en) (keep:=(kk [0,1,4,7,8])) (l:=Qkn_l) func389 Qkn_s fun av k h=>by
 unfold Qkn at h;split at h
 ·apply xab h;clear h;intro a1 h;exact km h
 ·exact h.elim
def Qko:GM
 | [.one a0,.fn 338 [.cells u0]],k=>un 1 (fun a1 =>
  call Qkn [.one a0,.fn 338 [.cells [a1]]] fun o0 =>
  xac .geq (atP o0 0) (I 0) fun r1 =>
  rt [.sc] [r1] k) u0
 | _,_=>False
theorem Qko_w:EO ⟨[337,338],Qko⟩:=oNz (ec Qkn_w en) func337 fun av k h=>by
 unfold Qko at h;split at h
 ·apply xab h;clear h;intro a1 h;exact km h
 ·exact h.elim
def Qkp:GM
 | [.agg u0,.one a2],k=>un 2 (fun a0 a1 =>
  xac .geq a2 (I 0) fun r0 =>
  xad r0
   (call Qko [.one a1,.fn 338 [.cells [a2]]] fun o1 =>
   rt [.sc] [(atP o1 0)] k)
   (rt [.sc] [(.bool false)] k)) u0
 | _,_=>False
theorem Qkp_w:EO ⟨[287],Qkp⟩:=oFz (ec Qko_w en) func287 fun av k h=>by
 unfold Qkp at h;split at h
 ·apply xab h;clear h;intro a0 a1 h;exact km h
 ·exact h.elim
def Qkq_r0 (v:List PV) (K:List PV→Prop) (x0k:Cur 18) (x1k:Cur 18) (x2k:Cur 18) (x3k:Cur 18) (x4k:Cur 25):Prop :=
 un 25 (fun v0 v1 v2 v3 v4 v5 v6 v7 v8 v9 v10 v11 v12 v13 v14 v15 v16 v17 v18 v19 v20 v21 v22 v23 v24 =>
  let F2:=fun (c1:List PV) (r38:PV)=>call Qdv [.agg [(atP c1 2),(atP c1 3),(atP c1 4),(atP c1 5)]] fun o40 =>
   ((((((x2k v6 (atP c1 1) (atP o40 0) (atP o40 1) (atP o40 2) v12 v13 v14 v15 v16 (atP o40 3) r38 v17 v18 v19 v20 v23 v24)∧True)∧True)∧True)∧True)∧True)∧((((((x2k v6 (atP c1 1) (atP o40 0) (atP o40 1) (atP o40 2) v12 v13 v14 v15 v16 (atP o40 3) r38 v17 v18 v19 v20 v23 v24)∧True)∧True)∧True)∧True)∧True)∧True
  let F6:=fun (o2:List PV) (c1:List PV)=>(1=1)∧(1≤16777216)∧(1=1)∧(0=0)∧(1=1)∧(xae [.pv (I 0)] [.pv (atP o2 0)])∧xbA 1 v21 (.list 1 [[(atP o2 0)]]) fun r42 =>
   xac .eql (atP o2 0) (I 1) fun r43 =>
   xad r43
   (F2 c1 r42)
   (xac .add v6 (I 1) fun r45 =>
   K [v0,v1,v2,v3,v4,v5,r45,v7,v8,v9,v10,v11,v12,v13,v14,v15,v16,v17,v18,v19,v20,r42,v22,v23,v24])
  let F5:=fun (c1:List PV) (r51:PV)=>call Qdv [.agg [(atP c1 2),(atP c1 3),(atP c1 4),(atP c1 5)]] fun o53 =>
   ((((((x3k v6 (atP c1 1) (atP o53 0) (atP o53 1) (atP o53 2) v12 v13 v14 v15 v16 (atP o53 3) r51 v17 v18 v19 v20 v23 v24)∧True)∧True)∧True)∧True)∧True)∧((((((x3k v6 (atP c1 1) (atP o53 0) (atP o53 1) (atP o53 2) v12 v13 v14 v15 v16 (atP o53 3) r51 v17 v18 v19 v20 v23 v24)∧True)∧True)∧True)∧True)∧True)∧True
  let F0:=fun (o2:List PV) (c1:List PV)=>call Qeb [.one (I 6),.one (I 1),.one (I 3)] fun o33 =>
   xad (atP o33 0)
   (call Qkp [.agg [v23,v24],.one v0] fun o34 =>
   unP .not (atP o34 0) fun r35 =>
   xac .eql (atP o2 0) (I 1) fun r36 =>
   xad r36
   (unP .not r35 fun r37 =>
   xad r37
   ((1=1)∧(1≤16777216)∧(1=1)∧(0=0)∧(1=1)∧(xae [.pv (I 0)] [.pv (I 3)])∧xbA 1 v21 (.list 1 [[(I 3)]]) fun r38 =>
   xac .eql (I 3) (I 1) fun r39 =>
   xad r39
   (F2 c1 r38)
   (xac .add v6 (I 1) fun r41 =>
   K [v0,v1,v2,v3,v4,v5,r41,v7,v8,v9,v10,v11,v12,v13,v14,v15,v16,v17,v18,v19,v20,r38,v22,v23,v24]))
   (F6 o2 c1))
   (F6 o2 c1))
   (xac .eql (atP o2 0) (I 1) fun r50 =>
   xad r50
   ((1=1)∧(1≤16777216)∧(1=1)∧(0=0)∧(1=1)∧(xae [.pv (I 0)] [.pv (I 3)])∧xbA 1 v21 (.list 1 [[(I 3)]]) fun r51 =>
   xac .eql (I 3) (I 1) fun r52 =>
   xad r52
   (F5 c1 r51)
   (xac .add v6 (I 1) fun r54 =>
   K [v0,v1,v2,v3,v4,v5,r54,v7,v8,v9,v10,v11,v12,v13,v14,v15,v16,v17,v18,v19,v20,r51,v22,v23,v24]))
   ((1=1)∧(1≤16777216)∧(1=1)∧(0=0)∧(1=1)∧(xae [.pv (I 0)] [.pv (atP o2 0)])∧xbA 1 v21 (.list 1 [[(atP o2 0)]]) fun r55 =>
   xac .eql (atP o2 0) (I 1) fun r56 =>
   xad r56
   (F5 c1 r55)
   (xac .add v6 (I 1) fun r58 =>
   K [v0,v1,v2,v3,v4,v5,r58,v7,v8,v9,v10,v11,v12,v13,v14,v15,v16,v17,v18,v19,v20,r55,v22,v23,v24])))
  let F1:=fun (c1:List PV) (r12:PV) (o6:List PV)=>call Qdv [.agg [(atP c1 2),(atP c1 3),(atP c1 4),(atP c1 5)]] fun o14 =>
   ((((((x0k v6 (atP c1 1) (atP o14 0) (atP o14 1) (atP o14 2) v12 v13 v14 v15 v16 (atP o14 3) r12 (atP o6 0) (atP o6 1) v17 v18 v19 v20)∧True)∧True)∧True)∧True)∧True)∧((((((x0k v6 (atP c1 1) (atP o14 0) (atP o14 1) (atP o14 2) v12 v13 v14 v15 v16 (atP o14 3) r12 (atP o6 0) (atP o6 1) v17 v18 v19 v20)∧True)∧True)∧True)∧True)∧True)∧True
  let F3:=fun (r12:PV) (o6:List PV)=>xac .add v6 (I 1) fun r15 =>
   K [v0,v1,v2,v3,v4,v5,r15,v7,v8,v9,v10,v11,v12,v13,v14,v15,v16,v17,v18,v19,v20,r12,v22,(atP o6 0),(atP o6 1)]
  let F4:=fun (c1:List PV) (r25:PV) (o6:List PV)=>call Qdv [.agg [(atP c1 2),(atP c1 3),(atP c1 4),(atP c1 5)]] fun o27 =>
   ((((((x1k v6 (atP c1 1) (atP o27 0) (atP o27 1) (atP o27 2) v12 v13 v14 v15 v16 (atP o27 3) r25 (atP o6 0) (atP o6 1) v17 v18 v19 v20)∧True)∧True)∧True)∧True)∧True)∧((((((x1k v6 (atP c1 1) (atP o27 0) (atP o27 1) (atP o27 2) v12 v13 v14 v15 v16 (atP o27 3) r25 (atP o6 0) (atP o6 1) v17 v18 v19 v20)∧True)∧True)∧True)∧True)∧True)∧True
  let F7:=fun (o2:List PV) (c1:List PV) (o6:List PV)=>(1=1)∧(1≤16777216)∧(1=1)∧(0=0)∧(1=1)∧(xae [.pv (I 0)] [.pv (atP o2 0)])∧xbA 1 v21 (.list 1 [[(atP o2 0)]]) fun r16 =>
   xac .eql (atP o2 0) (I 1) fun r17 =>
   xad r17
   (F1 c1 r16 o6)
   (F3 r16 o6)
  xac .lss v6 v5 fun r0 =>
  xad r0
   (xai 21 v4 v6 fun c1 =>
   call Qjz [.one v0,.one v1,.agg [(atP c1 0),(atP c1 1),(atP c1 2),(atP c1 3),(atP c1 4),(atP c1 5),(atP c1 6),(atP c1 7),(atP c1 8),(atP c1 9),(atP c1 10),(atP c1 11),(atP c1 12),(atP c1 13),(atP c1 14),(atP c1 15),(atP c1 16),(atP c1 17),(atP c1 18),(atP c1 19),(atP c1 20)],.one v2] fun o2 =>
   call Qfo [.one (atP c1 0)] fun o3 =>
   xad (atP o3 0)
    (xai 17 (atP c1 0) (I 0) fun c4 =>
    xac .eql (atP c4 0) v0 fun r5 =>
    xad r5
     (call Qkh [.agg [v23,v24],.one (atP c1 0)] fun o6 =>
     call Qeb [.one (atP o6 2),.one (I 1),.one (I 3)] fun o7 =>
     xad (atP o7 0)
      (call Qkp [.agg [(atP o6 0),(atP o6 1)],.one v0] fun o8 =>
      unP .not (atP o8 0) fun r9 =>
      xac .eql (atP o2 0) (I 1) fun r10 =>
      xad r10
       (unP .not r9 fun r11 =>
       xad r11
        ((1=1)∧(1≤16777216)∧(1=1)∧(0=0)∧(1=1)∧(xae [.pv (I 0)] [.pv (I 3)])∧xbA 1 v21 (.list 1 [[(I 3)]]) fun r12 =>
        xac .eql (I 3) (I 1) fun r13 =>
        xad r13
         (F1 c1 r12 o6)
         (F3 r12 o6))
        (F7 o2 c1 o6))
       (F7 o2 c1 o6))
      (xac .eql (atP o2 0) (I 1) fun r24 =>
      xad r24
       ((1=1)∧(1≤16777216)∧(1=1)∧(0=0)∧(1=1)∧(xae [.pv (I 0)] [.pv (I 3)])∧xbA 1 v21 (.list 1 [[(I 3)]]) fun r25 =>
       xac .eql (I 3) (I 1) fun r26 =>
       xad r26
        (F4 c1 r25 o6)
        (F3 r25 o6))
       ((1=1)∧(1≤16777216)∧(1=1)∧(0=0)∧(1=1)∧(xae [.pv (I 0)] [.pv (atP o2 0)])∧xbA 1 v21 (.list 1 [[(atP o2 0)]]) fun r29 =>
       xac .eql (atP o2 0) (I 1) fun r30 =>
       xad r30
        (F4 c1 r29 o6)
        (F3 r29 o6))))
     (F0 o2 c1))
    (F0 o2 c1))
   (x4k v0 v1 v2 v3 v4 v5 v6 v7 v8 v9 v10 v11 v12 v13 v14 v15 v16 v17 v18 v19 v20 v21 v22 v23 v24)) v
def Qkq:GM
 | [.agg u0,.one a2,.one a3,.one a4,.one a5],k=>un 2 (fun a0 a1 =>
  call Qdx [.agg [a0,a1]] fun o0 =>
  xaK a2 fun r1 =>
  lp (fun L w=>Qkq_r0 w L
   (fun q85 q86 q87 q88 q89 q90 q91 q92 q93 q94 q95 q96 q97 q98 q99 q100 q101 q102=>rt g10 [q97,q98,q86,q87,q88,q89,q95,(.bool true),q96,q85] k)
   (fun q103 q104 q105 q106 q107 q108 q109 q110 q111 q112 q113 q114 q115 q116 q117 q118 q119 q120=>rt g10 [q115,q116,q104,q105,q106,q107,q113,(.bool true),q114,q103] k)
   (fun q121 q122 q123 q124 q125 q126 q127 q128 q129 q130 q131 q132 q133 q134 q135 q136 q137 q138=>rt g10 [q137,q138,q122,q123,q124,q125,q131,(.bool true),q132,q121] k)
   (fun q139 q140 q141 q142 q143 q144 q145 q146 q147 q148 q149 q150 q151 q152 q153 q154 q155 q156=>rt g10 [q155,q156,q140,q141,q142,q143,q149,(.bool true),q150,q139] k)
   (fun q157 q158 q159 q160 q161 q162 q163 q164 q165 q166 q167 q168 q169 q170 q171 q172 q173 q174 q175 q176 q177 q178 q179 q180 q181=>rt g10 [q180,q181,q164,q165,q166,q167,q179,q168,q178,(I (-1))] k)) [a3,a4,a5,(I 0),a2,r1,(I 0),(.bool false),(.str ⟨#[]⟩),(I 0),(I 0),(.bool false),(.bool false),(.str ⟨#[]⟩),(I 0),(I 0),(.bool false),(.list 1 []),(.list 1 []),(.list 51 []),(.list 1 []),(.list 1 []),(.list 1 []),(atP o0 0),(atP o0 1)]) u0
 | _,_=>False
def Qkq_l:List LE:=[⟨none,0,⟨[(2,.one zB),(3,.one zB),(4,.one zB),(10,.one (.ptr 1 0)),(11,.one zB),(12,.one (.ptr 4 0)),(18,.one zB),(19,.one zB),(20,.one zB)],[(4,[.own 2,.own 3,zB,zB,zB,zB,.own 5,zB,.own 6]),(1,[.own 7,.own 8,zB,zB,zB,zB,.own 9,zB,.own 10])],[(10,⟨.deep,3,1,(.bool false)⟩),(9,⟨.deep,9,1,(.bool false)⟩),(8,⟨.deep,259,51,(.bool false)⟩),(7,⟨.deep,90,1,(.bool false)⟩),(6,⟨.deep,3,1,(.bool false)⟩),(5,⟨.deep,9,1,(.bool false)⟩),(2,⟨.deep,90,1,(.bool false)⟩),(3,⟨.deep,259,51,(.bool false)⟩)],11,42,[]⟩,fun K k v=>Qkq_r0 v K (fun x0 x1 x2 x3 x4 x5 x6 x7 x8 x9 x10 x11 x12 x13 x14 x15 x16 x17=>k .ret ⟨[(10,.one (.ptr 1 0)),(11,.one (.pv x0))],[(1,[.own 15,.own 16,.pv x1,.pv x2,.pv x3,.pv x4,.own 25,.kb true,.own 21]),(1,[.own 7,.own 8,.pv x5,.pv x6,.pv x7,.pv x8,.own 9,.pv x9,.own 10])],[(25,⟨.deep,9,1,x10⟩),(21,⟨.deep,3,1,x11⟩),(15,⟨.deep,90,1,x12⟩),(16,⟨.deep,259,51,x13⟩),(10,⟨.deep,3,1,x14⟩),(9,⟨.deep,9,1,x15⟩),(8,⟨.deep,259,51,x16⟩),(7,⟨.deep,90,1,x17⟩)],26,42,[]⟩) (fun x0 x1 x2 x3 x4 x5 x6 x7 x8 x9 x10 x11 x12 x13 x14 x15 x16 x17=>k .ret ⟨[(10,.one (.ptr 1 0)),(11,.one (.pv x0))],[(1,[.own 15,.own 16,.pv x1,.pv x2,.pv x3,.pv x4,.own 24,.kb true,.own 20]),(1,[.own 7,.own 8,.pv x5,.pv x6,.pv x7,.pv x8,.own 9,.pv x9,.own 10])],[(24,⟨.deep,9,1,x10⟩),(20,⟨.deep,3,1,x11⟩),(15,⟨.deep,90,1,x12⟩),(16,⟨.deep,259,51,x13⟩),(10,⟨.deep,3,1,x14⟩),(9,⟨.deep,9,1,x15⟩),(8,⟨.deep,259,51,x16⟩),(7,⟨.deep,90,1,x17⟩)],25,42,[]⟩) (fun x0 x1 x2 x3 x4 x5 x6 x7 x8 x9 x10 x11 x12 x13 x14 x15 x16 x17=>k .ret ⟨[(10,.one (.ptr 1 0)),(11,.one (.pv x0))],[(1,[.own 2,.own 3,.pv x1,.pv x2,.pv x3,.pv x4,.own 22,.kb true,.own 18]),(1,[.own 7,.own 8,.pv x5,.pv x6,.pv x7,.pv x8,.own 9,.pv x9,.own 10])],[(22,⟨.deep,9,1,x10⟩),(18,⟨.deep,3,1,x11⟩),(10,⟨.deep,3,1,x12⟩),(9,⟨.deep,9,1,x13⟩),(8,⟨.deep,259,51,x14⟩),(7,⟨.deep,90,1,x15⟩),(2,⟨.deep,90,1,x16⟩),(3,⟨.deep,259,51,x17⟩)],23,42,[]⟩) (fun x0 x1 x2 x3 x4 x5 x6 x7 x8 x9 x10 x11 x12 x13 x14 x15 x16 x17=>k .ret ⟨[(10,.one (.ptr 1 0)),(11,.one (.pv x0))],[(1,[.own 2,.own 3,.pv x1,.pv x2,.pv x3,.pv x4,.own 21,.kb true,.own 17]),(1,[.own 7,.own 8,.pv x5,.pv x6,.pv x7,.pv x8,.own 9,.pv x9,.own 10])],[(21,⟨.deep,9,1,x10⟩),(17,⟨.deep,3,1,x11⟩),(10,⟨.deep,3,1,x12⟩),(9,⟨.deep,9,1,x13⟩),(8,⟨.deep,259,51,x14⟩),(7,⟨.deep,90,1,x15⟩),(2,⟨.deep,90,1,x16⟩),(3,⟨.deep,259,51,x17⟩)],22,42,[]⟩) (fun x0 x1 x2 x3 x4 x5 x6 x7 x8 x9 x10 x11 x12 x13 x14 x15 x16 x17 x18 x19 x20 x21 x22 x23 x24=>k (.exit 0) ⟨[(2,.one (.pv x0)),(3,.one (.pv x1)),(4,.one (.pv x2)),(10,.one (.ptr 1 0)),(11,.one (.pv x3)),(12,.one (.ptr 4 0)),(18,.one (.pv x4)),(19,.one (.pv x5)),(20,.one (.pv x6))],[(4,[.own 2,.own 3,.pv x7,.pv x8,.pv x9,.pv x10,.own 5,.pv x11,.own 6]),(1,[.own 7,.own 8,.pv x12,.pv x13,.pv x14,.pv x15,.own 9,.pv x16,.own 10])],[(10,⟨.deep,3,1,x17⟩),(9,⟨.deep,9,1,x18⟩),(8,⟨.deep,259,51,x19⟩),(7,⟨.deep,90,1,x20⟩),(6,⟨.deep,3,1,x21⟩),(5,⟨.deep,9,1,x22⟩),(2,⟨.deep,90,1,x23⟩),(3,⟨.deep,259,51,x24⟩)],11,42,[]⟩)⟩]
theorem Qkq_s:xaD [⟨[198],Qdx⟩,⟨[230],Qjz⟩,⟨[267],Qfo⟩,⟨[286],Qkh⟩,⟨[266],Qeb⟩,⟨[287],Qkp⟩,⟨[229],Qdv⟩] TT.nofl (kk [2,3,4,10,11,12,18,19,20,999999]) Qkq_l f163 Qkq_l:=⟨fun v K k h=>by
 apply xab h;(repeat intro _);rename_i h;exact km h
 ,trivial⟩
theorem Qkq_w:EO ⟨[163],Qkq⟩:=oF (ec Qdx_w (ec Qjz_w (ec Qfo_w (ec Qkh_w (ec Qeb_w (ec Qkp_w (ec Qdv_w en))))))) (keep:=(kk [2,3,4,10,11,12,18,19,20,999999])) (l:=Qkq_l) func163 Qkq_s fun av k h=>by
 unfold Qkq at h;split at h
 ·apply xab h;clear h;intro a0 a1 h;exact km h
 ·exact h.elim
def Qkr:GM
 | [.agg u0,.one a2,.one a3,.one a4,.one a5],k=>un 2 (fun a0 a1 =>
  call Qkq [.agg [a0,a1],.one a2,.one a3,.one a4,.one a5] fun o0 =>
  rt g26 (s9 o0) k) u0
 | _,_=>False
theorem Qkr_w:EO ⟨[91],Qkr⟩:=oFz (ec Qkq_w en) func91 fun av k h=>by
 unfold Qkr at h;split at h
 ·apply xab h;clear h;intro a0 a1 h;exact km h
 ·exact h.elim
def Qks_r0 (v:List PV) (K:List PV→Prop) (x0k:Cur 18):Prop :=
 un 18 (fun v0 v1 v2 v3 v4 v5 v6 v7 v8 v9 v10 v11 v12 v13 v14 v15 v16 v17 =>
  xac .lss v5 v4 fun r0 =>
  xad r0
   (xai 2 v3 v5 fun c1 =>
   call Qix [.one v0,.one v1] fun o2 =>
   call Qjk [.agg [(atP c1 0),(atP c1 1)],.agg [(atP o2 0),(atP o2 1)]] fun o3 =>
   call Qjl [.one (atP o3 0),.one v1] fun o4 =>
   xad (atP o4 21)
    ((1=1)∧(21≤16777216)∧(21=21)∧(0=0)∧(21=21)∧(xae [.nil 257 17,zB,.pv (.str ⟨#[]⟩),.pv (I 0),.pv (I 0),.nil 9 1,.pv (I 0),.nil 3 1,.pv (I 0),.pv (.str ⟨#[]⟩),.pv (I 0),.pv (I 0),.nil 9 1,.pv (.str ⟨#[]⟩),.pv (I 0),.pv (I 0),.nil 9 1,.pv (I 0),.nil 3 1,.pv (I 0),.nil 3 1] [.own 11,.pv (atP o4 1),.pv (atP o4 2),.pv (atP o4 3),.pv (atP o4 4),.own 16,.pv (atP o4 6),.own 18,.pv (atP o4 8),.pv (atP o4 9),.pv (atP o4 10),.pv (atP o4 11),.own 23,.pv (atP o4 13),.pv (atP o4 14),.pv (atP o4 15),.own 27,.pv (atP o4 17),.own 29,.pv (atP o4 19),.own 31])∧xbA 21 v17 (.list 21 [(s21 o4)]) fun r5 =>
    xac .add v5 (I 1) fun r6 =>
    K [v0,v1,v2,v3,v4,r6,v6,v7,v8,v9,v10,v11,v12,v13,v14,v15,v16,r5])
    (xac .add v5 (I 1) fun r7 =>
    K [v0,v1,v2,v3,v4,r7,v6,v7,v8,v9,v10,v11,v12,v13,v14,v15,v16,v17]))
   (x0k v0 v1 v2 v3 v4 v5 v6 v7 v8 v9 v10 v11 v12 v13 v14 v15 v16 v17)) v
def Qks:GM
 | [.agg u0,.one a2,.one a3,.one a4,.one a5],k=>un 2 (fun a0 a1 =>
  (0=0)∧(0≤16777216)∧(21=21)∧xaK a2 fun r0 =>
  xtu (I 4) r0 fun r1 =>
  xlZ r1 fun n2 =>
  xkg 2 a2 none (some n2) fun r3 =>
  xaK r3 fun r4 =>
  lp (fun L w=>Qks_r0 w L
   (fun q8 q9 q10 q11 q12 q13 q14 q15 q16 q17 q18 q19 q20 q21 q22 q23 q24 q25=>call Qkr [.agg [q19,q20],.one q25,.one q8,.one q9,.one q10] fun o26 =>
    rt g26 (s9 o26) k)) [a3,a4,a5,r3,r4,(I 0),(.bool false),(.str ⟨#[]⟩),(I 0),(I 0),(.bool false),a0,a1,(.list 1 []),(.list 1 []),(.list 51 []),(.list 1 []),(.list 21 [])]) u0
 | _,_=>False
def Qks_l:List LE:=[⟨none,0,⟨[(2,.one zB),(3,.one zB),(4,.one zB),(5,.one (.ptr 0 0)),(10,.one (.ptr 1 0)),(11,.one (.own 2)),(21,.one zB),(22,.one zB),(23,.one zB)],[(1,[.own 3,.own 4,zB,zB,zB,zB,.own 5,zB,.own 6]),(0,[zB,zB])],[(6,⟨.deep,3,1,(.bool false)⟩),(5,⟨.deep,9,1,(.bool false)⟩),(4,⟨.deep,259,51,(.bool false)⟩),(3,⟨.deep,90,1,(.bool false)⟩),(2,⟨.deep,150,21,(.bool false)⟩)],7,49,[]⟩,fun K k v=>Qks_r0 v K (fun x0 x1 x2 x3 x4 x5 x6 x7 x8 x9 x10 x11 x12 x13 x14 x15 x16 x17=>k (.exit 0) ⟨[(2,.one (.pv x0)),(3,.one (.pv x1)),(4,.one (.pv x2)),(5,.one (.ptr 0 0)),(10,.one (.ptr 1 0)),(11,.one (.own 2)),(21,.one (.pv x3)),(22,.one (.pv x4)),(23,.one (.pv x5))],[(1,[.own 3,.own 4,.pv x6,.pv x7,.pv x8,.pv x9,.own 5,.pv x10,.own 6]),(0,[.pv x11,.pv x12])],[(6,⟨.deep,3,1,x13⟩),(5,⟨.deep,9,1,x14⟩),(4,⟨.deep,259,51,x15⟩),(3,⟨.deep,90,1,x16⟩),(2,⟨.deep,150,21,x17⟩)],7,49,[]⟩)⟩]
theorem Qks_s:xaD [⟨[90],Qix⟩,⟨[89],Qjk⟩,⟨[88],Qjl⟩,⟨[91],Qkr⟩] TT.nofl (kk [2,3,4,5,10,11,21,22,23,999999]) Qks_l f30 Qks_l:=⟨fun v K k h=>by
 apply xab h;(repeat intro _);rename_i h;exact km h
 ,trivial⟩
theorem Qks_w:EO ⟨[30],Qks⟩:=oF (ec Qix_w (ec Qjk_w (ec Qjl_w (ec Qkr_w en)))) (keep:=(kk [2,3,4,5,10,11,21,22,23,999999])) (l:=Qks_l) func30 Qks_s fun av k h=>by
 unfold Qks at h;split at h
 ·apply xab h;clear h;intro a0 a1 h;exact km h
 ·exact h.elim
def Qkt:GM
 | [.agg u0,.agg u1],k=>un 9 (fun a0 a1 a2 a3 a4 a5 a6 a7 a8=>un 9 (fun a9 a10 a11 a12 a13 a14 a15 a16 a17 =>
  call Qhf [.agg [a0,a1],.agg [a9,a10]] fun o0 =>
  unP .not (atP o0 0) fun r1 =>
  xad r1
   (rt [.sc] [(.bool false)] k)
   (xer .neq a2 a11 fun r2 =>
   xad r2
    (rt [.sc] [(.bool false)] k)
    (call Qgw [.agg [a3,a4,a5,a6],.agg [a12,a13,a14,a15]] fun o3 =>
    unP .not (atP o3 0) fun r4 =>
    xad r4
     (rt [.sc] [(.bool false)] k)
     (xer .neq a7 a16 fun r5 =>
     xad r5
      (rt [.sc] [(.bool false)] k)
      (call Qgo [.one a8,.one a17] fun o6 =>
      unP .not (atP o6 0) fun r7 =>
      xad r7
       (rt [.sc] [(.bool false)] k)
       (rt [.sc] [(.bool true)] k)))))) u1) u0
 | _,_=>False
theorem Qkt_w:EO ⟨[31],Qkt⟩:=oFz (ec Qhf_w (ec Qgw_w (ec Qgo_w en))) func31 fun av k h=>by
 unfold Qkt at h;split at h
 ·apply xab h;clear h;(repeat intro _);rename_i h;apply xab h;clear h;(repeat intro _);rename_i h;exact km h
 ·exact h.elim
def Qku:GM
 | [.agg u0,.one a4],k=>un 4 (fun a0 a1 a2 a3 =>
  call Qhj [.one a3,.one a4] fun o0 =>
  xac .lss (atP o0 0) (I 0) fun r1 =>
  xad r1
   (rt [.sc] [(I (-1))] k)
   (rt [.sc] [(atP o0 0)] k)) u0
 | _,_=>False
theorem Qku_w:EO ⟨[101],Qku⟩:=oFz (ec Qhj_w en) func101 fun av k h=>by
 unfold Qku at h;split at h
 ·apply xab h;clear h;intro a0 a1 a2 a3 h;exact km h
 ·exact h.elim
def Qkv:GM
 | [.agg u0,.one a9],k=>un 9 (fun a0 a1 a2 a3 a4 a5 a6 a7 a8 =>
  call Qhm [.agg [a0,a1],.one a9] fun o0 =>
  xac .lss (atP o0 0) (I 0) fun r1 =>
  xad r1
   (rt [.sc] [(I (-1))] k)
   (call Qku [.agg [a3,a4,a5,a6],.one (atP o0 0)] fun o2 =>
   xac .lss (atP o2 0) (I 0) fun r3 =>
   xad r3
    (rt [.sc] [(I (-1))] k)
    (call Qhg [.one a8,.one (atP o2 0)] fun o4 =>
    xac .lss (atP o4 0) (I 0) fun r5 =>
    xad r5
     (rt [.sc] [(I (-1))] k)
     (rt [.sc] [(atP o4 0)] k)))) u0
 | _,_=>False
theorem Qkv_w:EO ⟨[35],Qkv⟩:=oFz (ec Qhm_w (ec Qku_w (ec Qhg_w en))) func35 fun av k h=>by
 unfold Qkv at h;split at h
 ·apply xab h;clear h;(repeat intro _);rename_i h;exact km h
 ·exact h.elim
def laws_FnExactPrivateLookUp:GM
 | [.agg u0,.one a2,.one a3,.one a4,.one a5],k=>un 2 (fun a0 a1 =>
  xl6 a4 fun r0 =>
  xac .gtr r0 (I 1048576) fun r1 =>
  xad r1
   (rt [.sc] [(.bool true)] k)
   (call Qar [.agg [a0,a1],.one (I 1048576)] fun o2 =>
   xac .lss (atP o2 0) (I 0) fun r3 =>
   xad r3
    (rt [.sc] [(.bool true)] k)
    (call Qan [.one a2,.one (atP o2 0)] fun o4 =>
    xac .lss (atP o4 0) (I 0) fun r5 =>
    xad r5
     (rt [.sc] [(.bool true)] k)
     (call Qbj [.agg [a0,a1]] fun o6 =>
     call Qbf [.one a2] fun o7 =>
     call Qiv [.agg [(atP o6 0),(atP o6 1)],.one (atP o7 0),.one a3,.one a4,.one a5] fun o8 =>
     call Qbj [.agg [a0,a1]] fun o9 =>
     call Qbf [.one a2] fun o10 =>
     call Qks [.agg [(atP o9 0),(atP o9 1)],.one (atP o10 0),.one a3,.one a4,.one a5] fun o11 =>
     call Qkt [.agg [(atP o11 0),(atP o11 1),(atP o11 2),(atP o11 3),(atP o11 4),(atP o11 5),(atP o11 6),(atP o11 7),(atP o11 8)],.agg [(atP o8 0),(atP o8 1),(atP o8 2),(atP o8 3),(atP o8 4),(atP o8 5),(atP o8 6),(atP o8 7),(atP o8 8)]] fun o12 =>
     unP .not (atP o12 0) fun r13 =>
     xad r13
      (rt [.sc] [(.bool false)] k)
      (call Qbj [.agg [a0,a1]] fun o14 =>
      call Qhf [.agg [(atP o9 0),(atP o9 1)],.agg [(atP o14 0),(atP o14 1)]] fun o15 =>
      unP .not (atP o15 0) fun r16 =>
      xad r16
       (rt [.sc] [(.bool false)] k)
       (call Qbf [.one a2] fun o17 =>
       call Qhb [.one (atP o10 0),.one (atP o17 0)] fun o18 =>
       unP .not (atP o18 0) fun r19 =>
       xad r19
        (rt [.sc] [(.bool false)] k)
        ((xae [.nil 90 1,.nil 259 51] [.own 16,.own 17])∧call laws_markKnown [.agg [(atP o9 0),(atP o9 1)],.one (I 1)] fun o20 =>
        (xae [.nil 136 2] [.own 19])∧call laws_markServerS [.one (atP [(atP o10 0)] 0),.one (atP o20 2)] fun o21 =>
        xac .lss (atP o21 1) (I 0) fun r22 =>
        xad r22
         (rt [.sc] [(.bool false)] k)
         (call Qkt [.agg [(atP o11 0),(atP o11 1),(atP o11 2),(atP o11 3),(atP o11 4),(atP o11 5),(atP o11 6),(atP o11 7),(atP o11 8)],.agg [(atP o8 0),(atP o8 1),(atP o8 2),(atP o8 3),(atP o8 4),(atP o8 5),(atP o8 6),(atP o8 7),(atP o8 8)]] fun o23 =>
         unP .not (atP o23 0) fun r24 =>
         xad r24
          (rt [.sc] [(.bool false)] k)
          ((xae [.nil 90 1,.nil 259 51,zB,.pv (.str ⟨#[]⟩),.pv (I 0),.pv (I 0),.nil 9 1,zB,.nil 3 1] [.own 20,.own 21,.pv (atP o11 2),.pv (atP o11 3),.pv (atP o11 4),.pv (atP o11 5),.own 26,.pv (atP o11 7),.own 28])∧call laws_markLook [.agg [(atP o11 0),(atP o11 1),(atP o11 2),(atP o11 3),(atP o11 4),(atP o11 5),(atP o11 6),(atP o11 7),(atP o11 8)],.one (I 1)] fun o25 =>
          call Qkv [.agg [(atP o25 0),(atP o25 1),(atP o11 2),(atP o11 3),(atP o11 4),(atP o11 5),(atP o25 6),(atP o11 7),(atP o25 8)],.one (I 1)] fun o26 =>
          xac .lss (atP o26 0) (I 0) fun r27 =>
          xad r27
           (rt [.sc] [(.bool false)] k)
           (xac .neq (atP o26 0) (atP o25 9) fun r28 =>
           xad r28
            (rt [.sc] [(.bool false)] k)
            (call Qbj [.agg [a0,a1]] fun o29 =>
            call Qbf [.one a2] fun o30 =>
            call Qks [.agg [(atP o29 0),(atP o29 1)],.one (atP o30 0),.one a3,.one a4,.one a5] fun o31 =>
            call Qkt [.agg [(atP o31 0),(atP o31 1),(atP o31 2),(atP o31 3),(atP o31 4),(atP o31 5),(atP o31 6),(atP o31 7),(atP o31 8)],.agg [(atP o8 0),(atP o8 1),(atP o8 2),(atP o8 3),(atP o8 4),(atP o8 5),(atP o8 6),(atP o8 7),(atP o8 8)]] fun o32 =>
            unP .not (atP o32 0) fun r33 =>
            xad r33
             (rt [.sc] [(.bool false)] k)
             (call Qkv [.agg [(atP o25 0),(atP o25 1),(atP o11 2),(atP o11 3),(atP o11 4),(atP o11 5),(atP o25 6),(atP o11 7),(atP o25 8)],.one (I 1)] fun o34 =>
             xac .lss (atP o34 0) (I 0) fun r35 =>
             xad r35
              (rt [.sc] [(.bool false)] k)
              (xac .neq (atP o34 0) (atP o25 9) fun r36 =>
              xad r36
               (rt [.sc] [(.bool false)] k)
               (rt [.sc] [(.bool true)] k)))))))))))))) u0
 | _,_=>False
abbrev laws_FnExactPrivateLookUp_e:Ent:=⟨[5],laws_FnExactPrivateLookUp⟩
theorem laws_FnExactPrivateLookUp_w:EO laws_FnExactPrivateLookUp_e:=oFz (ec Qar_w (ec Qan_w (ec Qbj_w (ec Qbf_w (ec Qiv_w (ec Qks_w (ec Qkt_w (ec Qhf_w (ec Qhb_w (ec laws_markKnown_w (ec laws_markServerS_w (ec laws_markLook_w (ec Qkv_w en))))))))))))) func5 fun av k h=>by
 unfold laws_FnExactPrivateLookUp at h;split at h
 ·apply xab h;clear h;intro a0 a1 h;exact km h
 ·exact h.elim
end Go.Ev
