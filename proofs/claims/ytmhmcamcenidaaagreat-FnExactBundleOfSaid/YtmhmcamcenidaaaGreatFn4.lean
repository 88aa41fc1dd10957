/- For each function the meaning that the evaluator gives it, proved, part 4. -/
import Derived.Test.YtmhmcamcenidaaaGreatFn3
set_option linter.unusedVariables false
set_option linter.unusedSimpArgs false
set_option maxRecDepth 100000
namespace Go.Ev
open Go.Proofs Go.Proofs.Tryz
def Qjm_r0 (v:List PV) (K:List PV→Prop) (x0k:PV→Prop) (x1k:Cur 5):Prop :=
 un 5 (fun v0 v1 v2 v3 v4 =>
  xac .lss v4 v3 fun r0 =>
  xad r0
   (xaj 1 v0 v4 fun c1 =>
   call Qjl [.one (atP c1 0),.ro (.cells [v1])] fun o2 =>
   xad (atP o2 0)
    (x0k v4)
    (xac .add v4 (I 1) fun r3 =>
    K [v0,v1,v2,v3,r3]))
   (x1k v0 v1 v2 v3 v4)) v
def Qjm:GM
 | [.one a0,.fn 387 [.cells u0]],k=>un 1 (fun a1 =>
  xaH a0 fun r0 =>
  lp (fun L w=>Qjm_r0 w L
   (fun q4=>rt [.sc] [q4] k)
   (fun q5 q6 q7 q8 q9=>rt [.sc] [(I (-1))] k)) [a0,a1,(I 0),r0,(I 0)]) u0
 | _,_=>False
def Qjm_l:List LE:=[⟨none,0,⟨[(0,.one zB),(1,.one (.fn 387 [.ro (.cells [(.bool false)])])),(4,.one zB),(7,.one zB),(8,.one zB)],[],[],0,19,[]⟩,fun K k v=>Qjm_r0 v K (fun x0=>k .ret ⟨[(4,.one (.pv x0))],[],[],1,19,[]⟩) (fun x0 x1 x2 x3 x4=>k (.exit 0) ⟨[(0,.one (.pv x0)),(1,.one (.fn 387 [.ro (.cells [x1])])),(4,.one (.pv x2)),(7,.one (.pv x3)),(8,.one (.pv x4))],[],[],0,19,[]⟩)⟩]
theorem Qjm_s:xaE [⟨[387],Qjl⟩] TT (kk [0,1,4,7,8]) Qjm_l f386 Qjm_l:=⟨fun v K k h=>by
 apply xab h;exact fun v0 v1 v2 v3 v4 h=>km h
 ,trivial⟩
theorem Qjm_w:EO ⟨[386,387],Qjm⟩:=oN (ec Qjl_w en) (keep:=(kk [0,1,4,7,8])) (l:=Qjm_l) func386 Qjm_s fun av k h=>by
 unfold Qjm at h;split at h
 ·apply xab h;clear h;intro a1 h;exact km h
 ·exact h.elim
def Qjn:GM
 | [.agg u0,.one a2],k=>un 2 (fun a0 a1 =>
  call Qjm [.one a0,.fn 387 [.cells [a2]]] fun o0 =>
  rt [.sc] [(atP o0 0)] k) u0
 | _,_=>False
theorem Qjn_w:EO ⟨[335],Qjn⟩:=oFz (ec Qjm_w en) func335 fun av k h=>by
 unfold Qjn at h;split at h
 ·apply xab h;clear h;intro a0 a1 h;exact km h
 ·exact h.elim
def Qjo:GM
 | [.agg u0,.agg u1],k=>un 16 (fun a0 a1 a2 a3 a4 a5 a6 a7 a8 a9 a10 a11 a12 a13 a14 a15=>un 16 (fun a16 a17 a18 a19 a20 a21 a22 a23 a24 a25 a26 a27 a28 a29 a30 a31 =>
  call Qfc [.agg [a8,a9],.agg [a24,a25]] fun o0 =>
  xad (atP o0 0)
   (call Qfc [.agg [a10,a11],.agg [a26,a27]] fun o1 =>
   xad (atP o1 0)
    (call Qfc [.agg [a13,a14],.agg [a29,a30]] fun o2 =>
    xad (atP o2 0)
     (call Qen [.agg [a0,a1,a2,a3,a4,a5,a6,a7,a8,a9,a10,a11,a12,a13,a14,a15]] fun o3 =>
     call Qen [.agg [a16,a17,a18,a19,a20,a21,a22,a23,a24,a25,a26,a27,a28,a29,a30,a31]] fun o4 =>
     call Qfb [.one (atP o3 0),.one (atP o4 0)] fun o5 =>
     rt [.sc] [(atP o5 0)] k)
     (rt [.sc] [(.bool false)] k))
    (rt [.sc] [(.bool false)] k))
   (rt [.sc] [(.bool false)] k)) u1) u0
 | _,_=>False
theorem Qjo_w:EO ⟨[388],Qjo⟩:=oFz (ec Qfc_w (ec Qen_w (ec Qfb_w en))) func388 fun av k h=>by
 unfold Qjo at h;split at h
 ·apply xab h;clear h;(repeat intro _);rename_i h;apply xab h;clear h;(repeat intro _);rename_i h;exact km h
 ·exact h.elim
def Qjp_r0 (v:List PV) (K:List PV→Prop) (x0k:Prop) (x1k:Cur 5):Prop :=
 un 5 (fun v0 v1 v2 v3 v4 =>
  xac .lss v4 v3 fun r0 =>
  xad r0
   (xaj 17 v2 v4 fun c1 =>
   xaj 17 v0 v4 fun c2 =>
   call Qjo [.agg (s16 c1),.agg (s16 c2)] fun o3 =>
   unP .not (atP o3 0) fun r4 =>
   xad r4
    (x0k)
    (xac .add v4 (I 1) fun r5 =>
    K [v0,v1,v2,v3,r5]))
   (x1k v0 v1 v2 v3 v4)) v
def Qjp:GM
 | [.one a0,.one a1],k =>
  xaH a0 fun r0 =>
  xaH a1 fun r1 =>
  xac .gtr r0 r1 fun r2 =>
  xad r2
   (rt [.sc] [(.bool false)] k)
   (xaH a0 fun r3 =>
   lp (fun L w=>Qjp_r0 w L
    (rt [.sc] [(.bool false)] k)
    (fun q6 q7 q8 q9 q10=>rt [.sc] [(.bool true)] k)) [a1,(.bool false),a0,r3,(I 0)])
 | _,_=>False
def Qjp_l:List LE:=[⟨none,0,⟨[(1,.one zB),(4,.one zB),(12,.one zB),(13,.one zB),(14,.one zB)],[],[],0,29,[]⟩,fun K k v=>Qjp_r0 v K (k .ret ⟨[(4,.one (.kb false))],[],[],2,29,[]⟩) (fun x0 x1 x2 x3 x4=>k (.exit 0) ⟨[(1,.one (.pv x0)),(4,.one (.pv x1)),(12,.one (.pv x2)),(13,.one (.pv x3)),(14,.one (.pv x4))],[],[],0,29,[]⟩)⟩]
theorem Qjp_s:xaE [⟨[388],Qjo⟩] TT.nofl (kk [1,4,12,13,14,999999]) Qjp_l f385 Qjp_l:=⟨fun v K k h=>by
 apply xab h;exact fun v0 v1 v2 v3 v4 h=>km h
 ,trivial⟩
theorem Qjp_w:EO ⟨[385],Qjp⟩:=oF (ec Qjo_w en) (keep:=(kk [1,4,12,13,14,999999])) (l:=Qjp_l) func385 Qjp_s fun av k h=>by
 unfold Qjp at h;split at h
 ·exact km h
 ·exact h.elim
def Qjq:GM
 | [.agg u0,.one a2],k=>un 2 (fun a0 a1 =>
  call Qfj [.one a2] fun o0 =>
  unP .not (atP o0 0) fun r1 =>
  xad r1
   (rt [.sc] [(I 6)] k)
   (xaj 17 a2 (I 0) fun c2 =>
   call Qjn [.agg [a0,a1],.one (atP c2 0)] fun o3 =>
   xac .lss (atP o3 0) (I 0) fun r4 =>
   xad r4
    (rt [.sc] [(I 1)] k)
    (xaj 1 a0 (atP o3 0) fun c5 =>
    call Qjp [.one (atP c5 0),.one a2] fun o6 =>
    xaj 1 a0 (atP o3 0) fun c7 =>
    call Qjp [.one a2,.one (atP c7 0)] fun o8 =>
    xad (atP o6 0)
     (xad (atP o8 0)
      (rt [.sc] [(I 2)] k)
      (xad (atP o6 0)
       (rt [.sc] [(I 3)] k)
       (xad (atP o8 0)
        (rt [.sc] [(I 4)] k)
        (rt [.sc] [(I 5)] k))))
     (xad (atP o6 0)
      (rt [.sc] [(I 3)] k)
      (xad (atP o8 0)
       (rt [.sc] [(I 4)] k)
       (rt [.sc] [(I 5)] k)))))) u0
 | _,_=>False
theorem Qjq_w:EO ⟨[334],Qjq⟩:=oFz (ec Qfj_w (ec Qjn_w (ec Qjp_w en))) func334 fun av k h=>by
 unfold Qjq at h;split at h
 ·apply xab h;clear h;intro a0 a1 h;exact km h
 ·exact h.elim
def Qjr_r0 (v:List PV) (K:List PV→Prop) (x0k:Cur 55):Prop :=
 un 55 (fun v0 v1 v2 v3 v4 v5 v6 v7 v8 v9 v10 v11 v12 v13 v14 v15 v16 v17 v18 v19 v20 v21 v22 v23 v24 v25 v26 v27 v28 v29 v30 v31 v32 v33 v34 v35 v36 v37 v38 v39 v40 v41 v42 v43 v44 v45 v46 v47 v48 v49 v50 v51 v52 v53 v54 =>
  xaj 17 v0 v3 fun c0 =>
  xaj 17 v1 v3 fun c1 =>
  call Qjo [.agg [(atP c0 0),(atP c0 1),(atP c0 2),(atP c0 3),(atP c0 4),(atP c0 5),(atP c0 6),(atP c0 7),(atP c0 8),(atP c0 9),(atP c0 10),(atP c0 11),(atP c0 12),(atP c0 13),(atP c0 14),(atP c0 15)],.agg [(atP c1 0),(atP c1 1),(atP c1 2),(atP c1 3),(atP c1 4),(atP c1 5),(atP c1 6),(atP c1 7),(atP c1 8),(atP c1 9),(atP c1 10),(atP c1 11),(atP c1 12),(atP c1 13),(atP c1 14),(atP c1 15)]] fun o2 =>
  xad (atP o2 0)
   (xac .add v3 (I 1) fun r3 =>
   K [v0,v1,v2,r3,v4,v5,v6,v7,v8,v9,v10,v11,v12,v13,v14,v15,v16,v17,v18,v19,v20,v21,v22,v23,v24,v25,v26,v27,v28,v29,v30,v31,v32,v33,v34,v35,v36,v37,v38,v39,v40,v41,v42,v43,v44,v45,v46,v47,v48,v49,v50,v51,v52,v53,v54])
   (x0k v0 v1 v2 v3 v4 v5 v6 v7 v8 v9 v10 v11 v12 v13 v14 v15 v16 v17 v18 v19 v20 v21 v22 v23 v24 v25 v26 v27 v28 v29 v30 v31 v32 v33 v34 v35 v36 v37 v38 v39 v40 v41 v42 v43 v44 v45 v46 v47 v48 v49 v50 v51 v52 v53 v54)) v
def Qjr:GM
 | [.one a0,.one a1],k =>
  call Qfj [.one a0] fun o0 =>
  unP .not (atP o0 0) fun r1 =>
  xad r1
   (rt g7 [(I 0),(I 0),(I 0),(I 0),(I 0),(I 0),(I 0),(I 0),(.list 1 []),(I 0),(.list 1 []),(I 0),(I 0),(.list 1 []),(I 0),(.bool false),(.list 2 []),(I 0),(I 0),(I 0),(I 0),(I 0),(I 0),(I 0),(I 0),(.list 1 []),(I 0),(.list 1 []),(I 0),(I 0),(.list 1 []),(I 0),(.bool false),(.list 2 []),(I 0),(I 0),(I 0),(I 0),(I 0),(I 0),(I 0),(I 0),(.list 1 []),(I 0),(.list 1 []),(I 0),(I 0),(.list 1 []),(I 0),(.bool false),(.list 2 []),(.bool false)] k)
   (call Qfj [.one a1] fun o2 =>
   unP .not (atP o2 0) fun r3 =>
   xad r3
    (rt g7 [(I 0),(I 0),(I 0),(I 0),(I 0),(I 0),(I 0),(I 0),(.list 1 []),(I 0),(.list 1 []),(I 0),(I 0),(.list 1 []),(I 0),(.bool false),(.list 2 []),(I 0),(I 0),(I 0),(I 0),(I 0),(I 0),(I 0),(I 0),(.list 1 []),(I 0),(.list 1 []),(I 0),(I 0),(.list 1 []),(I 0),(.bool false),(.list 2 []),(I 0),(I 0),(I 0),(I 0),(I 0),(I 0),(I 0),(I 0),(.list 1 []),(I 0),(.list 1 []),(I 0),(I 0),(.list 1 []),(I 0),(.bool false),(.list 2 []),(.bool false)] k)
    (xaj 17 a0 (I 0) fun c4 =>
    xaj 17 a1 (I 0) fun c5 =>
    xac .neq (atP c4 0) (atP c5 0) fun r6 =>
    xad r6
     (rt g7 [(I 0),(I 0),(I 0),(I 0),(I 0),(I 0),(I 0),(I 0),(.list 1 []),(I 0),(.list 1 []),(I 0),(I 0),(.list 1 []),(I 0),(.bool false),(.list 2 []),(I 0),(I 0),(I 0),(I 0),(I 0),(I 0),(I 0),(I 0),(.list 1 []),(I 0),(.list 1 []),(I 0),(I 0),(.list 1 []),(I 0),(.bool false),(.list 2 []),(I 0),(I 0),(I 0),(I 0),(I 0),(I 0),(I 0),(I 0),(.list 1 []),(I 0),(.list 1 []),(I 0),(I 0),(.list 1 []),(I 0),(.bool false),(.list 2 []),(.bool false)] k)
     (call Qjp [.one a0,.one a1] fun o7 =>
     xad (atP o7 0)
      (rt g7 [(I 0),(I 0),(I 0),(I 0),(I 0),(I 0),(I 0),(I 0),(.list 1 []),(I 0),(.list 1 []),(I 0),(I 0),(.list 1 []),(I 0),(.bool false),(.list 2 []),(I 0),(I 0),(I 0),(I 0),(I 0),(I 0),(I 0),(I 0),(.list 1 []),(I 0),(.list 1 []),(I 0),(I 0),(.list 1 []),(I 0),(.bool false),(.list 2 []),(I 0),(I 0),(I 0),(I 0),(I 0),(I 0),(I 0),(I 0),(.list 1 []),(I 0),(.list 1 []),(I 0),(I 0),(.list 1 []),(I 0),(.bool false),(.list 2 []),(.bool false)] k)
      (call Qjp [.one a1,.one a0] fun o8 =>
      xad (atP o8 0)
       (rt g7 [(I 0),(I 0),(I 0),(I 0),(I 0),(I 0),(I 0),(I 0),(.list 1 []),(I 0),(.list 1 []),(I 0),(I 0),(.list 1 []),(I 0),(.bool false),(.list 2 []),(I 0),(I 0),(I 0),(I 0),(I 0),(I 0),(I 0),(I 0),(.list 1 []),(I 0),(.list 1 []),(I 0),(I 0),(.list 1 []),(I 0),(.bool false),(.list 2 []),(I 0),(I 0),(I 0),(I 0),(I 0),(I 0),(I 0),(I 0),(.list 1 []),(I 0),(.list 1 []),(I 0),(I 0),(.list 1 []),(I 0),(.bool false),(.list 2 []),(.bool false)] k)
       (lp (fun L w=>Qjr_r0 w L
        (fun q9 q10 q11 q12 q13 q14 q15 q16 q17 q18 q19 q20 q21 q22 q23 q24 q25 q26 q27 q28 q29 q30 q31 q32 q33 q34 q35 q36 q37 q38 q39 q40 q41 q42 q43 q44 q45 q46 q47 q48 q49 q50 q51 q52 q53 q54 q55 q56 q57 q58 q59 q60 q61 q62 q63=>xaj 17 q9 q12 fun c64 =>
         call Qdl [.agg [(atP c64 0),(atP c64 1),(atP c64 2),(atP c64 3),(atP c64 4),(atP c64 5),(atP c64 6),(atP c64 7),(atP c64 8),(atP c64 9),(atP c64 10),(atP c64 11),(atP c64 12),(atP c64 13),(atP c64 14),(atP c64 15),(atP c64 16)]] fun o65 =>
         xaj 17 q10 q12 fun c66 =>
         call Qdl [.agg [(atP c66 0),(atP c66 1),(atP c66 2),(atP c66 3),(atP c66 4),(atP c66 5),(atP c66 6),(atP c66 7),(atP c66 8),(atP c66 9),(atP c66 10),(atP c66 11),(atP c66 12),(atP c66 13),(atP c66 14),(atP c66 15),(atP c66 16)]] fun o67 =>
         xac .gtr q12 (I 0) fun r68 =>
         xad r68
          (xac .sub q12 (I 1) fun r69 =>
          xaj 17 q9 r69 fun c70 =>
          call Qdl [.agg [(atP c70 0),(atP c70 1),(atP c70 2),(atP c70 3),(atP c70 4),(atP c70 5),(atP c70 6),(atP c70 7),(atP c70 8),(atP c70 9),(atP c70 10),(atP c70 11),(atP c70 12),(atP c70 13),(atP c70 14),(atP c70 15),(atP c70 16)]] fun o71 =>
          rt g7 [(atP o71 0),(atP o71 1),(atP o71 2),(atP o71 3),(atP o71 4),(atP o71 5),(atP o71 6),(atP o71 7),(atP o71 8),(atP o71 9),(atP o71 10),(atP o71 11),(atP o71 12),(atP o71 13),(atP o71 14),(atP o71 15),(atP o71 16),(atP o65 0),(atP o65 1),(atP o65 2),(atP o65 3),(atP o65 4),(atP o65 5),(atP o65 6),(atP o65 7),(atP o65 8),(atP o65 9),(atP o65 10),(atP o65 11),(atP o65 12),(atP o65 13),(atP o65 14),(atP o65 15),(atP o65 16),(atP o67 0),(atP o67 1),(atP o67 2),(atP o67 3),(atP o67 4),(atP o67 5),(atP o67 6),(atP o67 7),(atP o67 8),(atP o67 9),(atP o67 10),(atP o67 11),(atP o67 12),(atP o67 13),(atP o67 14),(atP o67 15),(atP o67 16),(.bool true)] k)
          (rt g7 [(I 0),(I 0),(I 0),(I 0),(I 0),(I 0),(I 0),(I 0),(.list 1 []),(I 0),(.list 1 []),(I 0),(I 0),(.list 1 []),(I 0),(.bool false),(.list 2 []),(atP o65 0),(atP o65 1),(atP o65 2),(atP o65 3),(atP o65 4),(atP o65 5),(atP o65 6),(atP o65 7),(atP o65 8),(atP o65 9),(atP o65 10),(atP o65 11),(atP o65 12),(atP o65 13),(atP o65 14),(atP o65 15),(atP o65 16),(atP o67 0),(atP o67 1),(atP o67 2),(atP o67 3),(atP o67 4),(atP o67 5),(atP o67 6),(atP o67 7),(atP o67 8),(atP o67 9),(atP o67 10),(atP o67 11),(atP o67 12),(atP o67 13),(atP o67 14),(atP o67 15),(atP o67 16),(.bool true)] k))) [a0,a1,(.bool false),(I 0),(I 0),(I 0),(I 0),(I 0),(I 0),(I 0),(I 0),(I 0),(I 0),(I 0),(I 0),(I 0),(.bool false),(I 0),(I 0),(I 0),(I 0),(I 0),(I 0),(I 0),(I 0),(I 0),(I 0),(I 0),(I 0),(.bool false),(I 0),(I 0),(I 0),(I 0),(I 0),(I 0),(I 0),(I 0),(I 0),(I 0),(I 0),(I 0),(.bool false),(.list 2 []),(.list 1 []),(.list 1 []),(.list 1 []),(.list 2 []),(.list 1 []),(.list 1 []),(.list 1 []),(.list 2 []),(.list 1 []),(.list 1 []),(.list 1 [])])))))
 | _,_=>False
def Qjr_l:List LE:=[⟨none,0,⟨[(0,.one zB),(1,.one zB),(4,.one (.ptr 0 0)),(5,.one zB),(6,.one zB)],[(0,[zB,zB,zB,zB,zB,zB,zB,zB,.own 5,zB,.own 6,zB,zB,.own 7,zB,zB,.own 8,zB,zB,zB,zB,zB,zB,zB,zB,.own 9,zB,.own 10,zB,zB,.own 11,zB,zB,.own 12,zB,zB,zB,zB,zB,zB,zB,zB,.own 13,zB,.own 14,zB,zB,.own 15,zB,zB,.own 16])],[(16,⟨.deep,317,2,(.bool false)⟩),(15,⟨.deep,3,1,(.bool false)⟩),(14,⟨.deep,3,1,(.bool false)⟩),(13,⟨.deep,3,1,(.bool false)⟩),(12,⟨.deep,317,2,(.bool false)⟩),(11,⟨.deep,3,1,(.bool false)⟩),(10,⟨.deep,3,1,(.bool false)⟩),(9,⟨.deep,3,1,(.bool false)⟩),(8,⟨.deep,317,2,(.bool false)⟩),(7,⟨.deep,3,1,(.bool false)⟩),(6,⟨.deep,3,1,(.bool false)⟩),(5,⟨.deep,3,1,(.bool false)⟩)],17,74,[]⟩,fun K k v=>Qjr_r0 v K (fun x0 x1 x2 x3 x4 x5 x6 x7 x8 x9 x10 x11 x12 x13 x14 x15 x16 x17 x18 x19 x20 x21 x22 x23 x24 x25 x26 x27 x28 x29 x30 x31 x32 x33 x34 x35 x36 x37 x38 x39 x40 x41 x42 x43 x44 x45 x46 x47 x48 x49 x50 x51 x52 x53 x54=>k (.exit 0) ⟨[(0,.one (.pv x0)),(1,.one (.pv x1)),(4,.one (.ptr 0 0)),(5,.one (.pv x2)),(6,.one (.pv x3))],[(0,[.pv x4,.pv x5,.pv x6,.pv x7,.pv x8,.pv x9,.pv x10,.pv x11,.own 5,.pv x12,.own 6,.pv x13,.pv x14,.own 7,.pv x15,.pv x16,.own 8,.pv x17,.pv x18,.pv x19,.pv x20,.pv x21,.pv x22,.pv x23,.pv x24,.own 9,.pv x25,.own 10,.pv x26,.pv x27,.own 11,.pv x28,.pv x29,.own 12,.pv x30,.pv x31,.pv x32,.pv x33,.pv x34,.pv x35,.pv x36,.pv x37,.own 13,.pv x38,.own 14,.pv x39,.pv x40,.own 15,.pv x41,.pv x42,.own 16])],[(16,⟨.deep,317,2,x43⟩),(15,⟨.deep,3,1,x44⟩),(14,⟨.deep,3,1,x45⟩),(13,⟨.deep,3,1,x46⟩),(12,⟨.deep,317,2,x47⟩),(11,⟨.deep,3,1,x48⟩),(10,⟨.deep,3,1,x49⟩),(9,⟨.deep,3,1,x50⟩),(8,⟨.deep,317,2,x51⟩),(7,⟨.deep,3,1,x52⟩),(6,⟨.deep,3,1,x53⟩),(5,⟨.deep,3,1,x54⟩)],18,74,[]⟩)⟩]
theorem Qjr_s:xaE [⟨[267],Qfj⟩,⟨[385],Qjp⟩,⟨[388],Qjo⟩,⟨[305],Qdl⟩] TT.nofl (kk [0,1,4,5,6,999999]) Qjr_l f336 Qjr_l:=⟨fun v K k h=>by
 apply xab h;(repeat intro _);rename_i h;exact km h
 ,trivial⟩
theorem Qjr_w:EO ⟨[336],Qjr⟩:=oF (ec Qfj_w (ec Qjp_w (ec Qjo_w (ec Qdl_w en)))) (keep:=(kk [0,1,4,5,6,999999])) (l:=Qjr_l) func336 Qjr_s fun av k h=>by
 unfold Qjr at h;split at h
 ·exact km h
 ·exact h.elim
def Qjs:GM
 | [.agg u0,.one a2],k=>un 2 (fun a0 a1 =>
  call Qdq [.agg [a0,a1]] fun o0 =>
  call Qjq [.agg [a0,a1],.one a2] fun o1 =>
  xac .eql (atP o1 0) (I 1) fun r2 =>
  xad r2
   (xaH a0 fun r3 =>
   xac .geq r3 (I 8) fun r4 =>
   xad r4
    (rt [.own true 90 1,.own true 259 51,.sc] [(atP o0 0),(atP o0 1),(I 6)] k)
    (call Qdm [.one a2] fun o5 =>
    (1=1)∧(1≤16777216)∧(1=1)∧(0=0)∧(1=1)∧(xae [.nil 257 17] [.own 6])∧xbh 1 (atP o0 0) (.list 1 [[(atP o5 0)]]) fun r6 =>
    rt [.own true 90 1,.own true 259 51,.sc] [r6,(atP o0 1),(atP o1 0)] k))
   (xac .eql (atP o1 0) (I 3) fun r7 =>
   xad r7
    (xaj 17 a2 (I 0) fun c8 =>
    call Qjn [.agg [a0,a1],.one (atP c8 0)] fun o9 =>
    call Qdm [.one a2] fun o10 =>
    xc6 1 (atP o0 0) (atP o9 0) fun n11 =>
    (xae [.nil 257 17] [.own 7])∧xl5 (atP o0 0) n11 0 [(atP o10 0)] fun r12 =>
    rt [.own true 90 1,.own true 259 51,.sc] [r12,(atP o0 1),(atP o1 0)] k)
    (xac .eql (atP o1 0) (I 5) fun r13 =>
    xad r13
     (xaj 17 a2 (I 0) fun c14 =>
     call Qjn [.agg [a0,a1],.one (atP c14 0)] fun o15 =>
     xaj 1 a0 (atP o15 0) fun c16 =>
     call Qjr [.one (atP c16 0),.one a2] fun o17 =>
     xad (atP o17 51)
      (xaH a1 fun r18 =>
      xac .lss r18 (I 8) fun r19 =>
      xad r19
       ((1=1)∧(51≤16777216)∧(51=51)∧(0=0)∧(51=51)∧(xae [.pv (I 0),.pv (I 0),.pv (I 0),.pv (I 0),.pv (I 0),.pv (I 0),.pv (I 0),.pv (I 0),.nil 3 1,.pv (I 0),.nil 3 1,.pv (I 0),.pv (I 0),.nil 3 1,.pv (I 0),zB,.nil 317 2,.pv (I 0),.pv (I 0),.pv (I 0),.pv (I 0),.pv (I 0),.pv (I 0),.pv (I 0),.pv (I 0),.nil 3 1,.pv (I 0),.nil 3 1,.pv (I 0),.pv (I 0),.nil 3 1,.pv (I 0),zB,.nil 317 2,.pv (I 0),.pv (I 0),.pv (I 0),.pv (I 0),.pv (I 0),.pv (I 0),.pv (I 0),.pv (I 0),.nil 3 1,.pv (I 0),.nil 3 1,.pv (I 0),.pv (I 0),.nil 3 1,.pv (I 0),zB,.nil 317 2] [.pv (atP o17 0),.pv (atP o17 1),.pv (atP o17 2),.pv (atP o17 3),.pv (atP o17 4),.pv (atP o17 5),.pv (atP o17 6),.pv (atP o17 7),.own 15,.pv (atP o17 9),.own 17,.pv (atP o17 11),.pv (atP o17 12),.own 20,.pv (atP o17 14),.pv (atP o17 15),.own 23,.pv (atP o17 17),.pv (atP o17 18),.pv (atP o17 19),.pv (atP o17 20),.pv (atP o17 21),.pv (atP o17 22),.pv (atP o17 23),.pv (atP o17 24),.own 32,.pv (atP o17 26),.own 34,.pv (atP o17 28),.pv (atP o17 29),.own 37,.pv (atP o17 31),.pv (atP o17 32),.own 40,.pv (atP o17 34),.pv (atP o17 35),.pv (atP o17 36),.pv (atP o17 37),.pv (atP o17 38),.pv (atP o17 39),.pv (atP o17 40),.pv (atP o17 41),.own 49,.pv (atP o17 43),.own 51,.pv (atP o17 45),.pv (atP o17 46),.own 54,.pv (atP o17 48),.pv (atP o17 49),.own 57])∧xbh 51 (atP o0 1) (.list 51 [(s51 o17)]) fun r20 =>
       rt [.own true 90 1,.own true 259 51,.sc] [(atP o0 0),r20,(atP o1 0)] k)
       (rt [.own true 90 1,.own true 259 51,.sc] [(atP o0 0),(atP o0 1),(atP o1 0)] k))
      (rt [.own true 90 1,.own true 259 51,.sc] [(atP o0 0),(atP o0 1),(atP o1 0)] k))
     (rt [.own true 90 1,.own true 259 51,.sc] [(atP o0 0),(atP o0 1),(atP o1 0)] k)))) u0
 | _,_=>False
theorem Qjs_w:EO ⟨[286],Qjs⟩:=oFz (ec Qdq_w (ec Qjq_w (ec Qdm_w (ec Qjn_w (ec Qjr_w en))))) func286 fun av k h=>by
 unfold Qjs at h;split at h
 ·apply xab h;clear h;intro a0 a1 h;exact km h
 ·exact h.elim
def Qjt_r0 (v:List PV) (K:List PV→Prop) (x0k:Prop) (x1k:Cur 5):Prop :=
 un 5 (fun v0 v1 v2 v3 v4 =>
  xac .lss v4 v3 fun r0 =>
  xad r0
   (xaj 2 v0 v4 fun c1 =>
   xaj 2 v1 v4 fun c2 =>
   (xeF [.pv (I 0),.pv (I 0)] [(atP c1 0),(atP c1 1)])∧(xeF [.pv (I 0),.pv (I 0)] [(atP c2 0),(atP c2 1)])∧xsX .neq [(atP c1 0),(atP c1 1)] [(atP c2 0),(atP c2 1)] fun r3 =>
   xad r3
    (x0k)
    (xac .add v4 (I 1) fun r4 =>
    K [v0,v1,v2,v3,r4]))
   (x1k v0 v1 v2 v3 v4)) v
def Qjt:GM
 | [.one a0,.one a1],k =>
  xaH a0 fun r0 =>
  xaH a1 fun r1 =>
  xac .neq r0 r1 fun r2 =>
  xad r2
   (rt [.sc] [(.bool false)] k)
   (xaH a0 fun r3 =>
   lp (fun L w=>Qjt_r0 w L
    (rt [.sc] [(.bool false)] k)
    (fun q5 q6 q7 q8 q9=>rt [.sc] [(.bool true)] k)) [a0,a1,(.bool false),r3,(I 0)])
 | _,_=>False
def Qjt_l:List LE:=[⟨none,0,⟨[(0,.one zB),(1,.one zB),(4,.one zB),(12,.one zB),(13,.one zB)],[],[],0,26,[]⟩,fun K k v=>Qjt_r0 v K (k .ret ⟨[(4,.one (.kb false))],[],[],0,26,[]⟩) (fun x0 x1 x2 x3 x4=>k (.exit 0) ⟨[(0,.one (.pv x0)),(1,.one (.pv x1)),(4,.one (.pv x2)),(12,.one (.pv x3)),(13,.one (.pv x4))],[],[],0,26,[]⟩)⟩]
theorem Qjt_s:xaE [] TT (kk [0,1,4,12,13]) Qjt_l f429 Qjt_l:=⟨fun v K k h=>by
 apply xab h;exact fun v0 v1 v2 v3 v4 h=>km h
 ,trivial⟩
theorem Qjt_w:EO ⟨[429],Qjt⟩:=oN en (keep:=(kk [0,1,4,12,13])) (l:=Qjt_l) func429 Qjt_s fun av k h=>by
 unfold Qjt at h;split at h
 ·exact km h
 ·exact h.elim
def Qju:GM
 | [.agg u0,.agg u1],k=>un 17 (fun a0 a1 a2 a3 a4 a5 a6 a7 a8 a9 a10 a11 a12 a13 a14 a15 a16=>un 17 (fun a17 a18 a19 a20 a21 a22 a23 a24 a25 a26 a27 a28 a29 a30 a31 a32 a33 =>
  call Qjo [.agg [a0,a1,a2,a3,a4,a5,a6,a7,a8,a9,a10,a11,a12,a13,a14,a15],.agg [a17,a18,a19,a20,a21,a22,a23,a24,a25,a26,a27,a28,a29,a30,a31,a32]] fun o0 =>
  xad (atP o0 0)
   (call Qjt [.one a16,.one a33] fun o1 =>
   rt [.sc] [(atP o1 0)] k)
   (rt [.sc] [(.bool false)] k)) u1) u0
 | _,_=>False
theorem Qju_w:EO ⟨[421],Qju⟩:=oFz (ec Qjo_w (ec Qjt_w en)) func421 fun av k h=>by
 unfold Qju at h;split at h
 ·apply xab h;clear h;(repeat intro _);rename_i h;apply xab h;clear h;(repeat intro _);rename_i h;exact km h
 ·exact h.elim
def Qjv:GM
 | [.agg u0],k=>un 51 (fun a0 a1 a2 a3 a4 a5 a6 a7 a8 a9 a10 a11 a12 a13 a14 a15 a16 a17 a18 a19 a20 a21 a22 a23 a24 a25 a26 a27 a28 a29 a30 a31 a32 a33 a34 a35 a36 a37 a38 a39 a40 a41 a42 a43 a44 a45 a46 a47 a48 a49 a50 =>
  call Qjo [.agg [a17,a18,a19,a20,a21,a22,a23,a24,a25,a26,a27,a28,a29,a30,a31,a32],.agg [a34,a35,a36,a37,a38,a39,a40,a41,a42,a43,a44,a45,a46,a47,a48,a49]] fun o0 =>
  xad (atP o0 0)
   (rt [.sc] [(.bool false)] k)
   (call Qju [.agg [a0,a1,a2,a3,a4,a5,a6,a7,a8,a9,a10,a11,a12,a13,a14,a15,a16],.agg [(I 0),(I 0),(I 0),(I 0),(I 0),(I 0),(I 0),(I 0),(.list 1 []),(I 0),(.list 1 []),(I 0),(I 0),(.list 1 []),(I 0),(.bool false),(.list 2 [])]] fun o1 =>
   xad (atP o1 0)
    (call Qex [.agg [a17,a18,a19,a20,a21,a22,a23,a24,a25,a26,a27,a28,a29,a30,a31,a32,a33]] fun o2 =>
    xad (atP o2 0)
     (call Qex [.agg [a34,a35,a36,a37,a38,a39,a40,a41,a42,a43,a44,a45,a46,a47,a48,a49,a50]] fun o3 =>
     xad (atP o3 0)
      (xac .eql a17 a34 fun r4 =>
      rt [.sc] [r4] k)
      (rt [.sc] [(.bool false)] k))
     (rt [.sc] [(.bool false)] k))
    (call Qfh [.agg [a0,a1,a2,a3,a4,a5,a6,a7,a8,a9,a10,a11,a12,a13,a14,a15],.agg [a17,a18,a19,a20,a21,a22,a23,a24,a25,a26,a27,a28,a29,a30,a31,a32,a33]] fun o5 =>
    xad (atP o5 0)
     (call Qfh [.agg [a0,a1,a2,a3,a4,a5,a6,a7,a8,a9,a10,a11,a12,a13,a14,a15],.agg [a34,a35,a36,a37,a38,a39,a40,a41,a42,a43,a44,a45,a46,a47,a48,a49,a50]] fun o6 =>
     rt [.sc] [(atP o6 0)] k)
     (rt [.sc] [(.bool false)] k)))) u0
 | _,_=>False
theorem Qjv_w:EO ⟨[390],Qjv⟩:=oFz (ec Qjo_w (ec Qju_w (ec Qex_w (ec Qfh_w en)))) func390 fun av k h=>by
 unfold Qjv at h;split at h
 ·apply xab h;clear h;(repeat intro _);rename_i h;exact km h
 ·exact h.elim
def Qjw:GM
 | [.agg u0],k=>un 51 (fun a0 a1 a2 a3 a4 a5 a6 a7 a8 a9 a10 a11 a12 a13 a14 a15 a16 a17 a18 a19 a20 a21 a22 a23 a24 a25 a26 a27 a28 a29 a30 a31 a32 a33 a34 a35 a36 a37 a38 a39 a40 a41 a42 a43 a44 a45 a46 a47 a48 a49 a50 =>
  call Qjv [.agg [a0,a1,a2,a3,a4,a5,a6,a7,a8,a9,a10,a11,a12,a13,a14,a15,a16,a17,a18,a19,a20,a21,a22,a23,a24,a25,a26,a27,a28,a29,a30,a31,a32,a33,a34,a35,a36,a37,a38,a39,a40,a41,a42,a43,a44,a45,a46,a47,a48,a49,a50]] fun o0 =>
  unP .not (atP o0 0) fun r1 =>
  xad r1
   (rt [.sc] [(I (-1))] k)
   (rt [.sc] [a17] k)) u0
 | _,_=>False
theorem Qjw_w:EO ⟨[339],Qjw⟩:=oFz (ec Qjv_w en) func339 fun av k h=>by
 unfold Qjw at h;split at h
 ·apply xab h;clear h;(repeat intro _);rename_i h;exact km h
 ·exact h.elim
def Qjx:GM
 | [.agg u0,.ro (.cells u1)],k=>un 51 (fun a0 a1 a2 a3 a4 a5 a6 a7 a8 a9 a10 a11 a12 a13 a14 a15 a16 a17 a18 a19 a20 a21 a22 a23 a24 a25 a26 a27 a28 a29 a30 a31 a32 a33 a34 a35 a36 a37 a38 a39 a40 a41 a42 a43 a44 a45 a46 a47 a48 a49 a50=>un 1 (fun a51 =>
  call Qjw [.agg [a0,a1,a2,a3,a4,a5,a6,a7,a8,a9,a10,a11,a12,a13,a14,a15,a16,a17,a18,a19,a20,a21,a22,a23,a24,a25,a26,a27,a28,a29,a30,a31,a32,a33,a34,a35,a36,a37,a38,a39,a40,a41,a42,a43,a44,a45,a46,a47,a48,a49,a50]] fun o0 =>
  xac .eql (atP o0 0) a51 fun r1 =>
  rt [.sc] [r1] k) u1) u0
 | _,_=>False
theorem Qjx_w:EO ⟨[338],Qjx⟩:=oFz (ec Qjw_w en) func338 fun av k h=>by
 unfold Qjx at h;split at h
 ·apply xab h;clear h;(repeat intro _);rename_i h;apply xab h;clear h;intro a51 h;exact km h
 ·exact h.elim
def Qjy_r0 (v:List PV) (K:List PV→Prop) (x0k:PV→Prop) (x1k:Cur 5):Prop :=
 un 5 (fun v0 v1 v2 v3 v4 =>
  xac .lss v4 v3 fun r0 =>
  xad r0
   (xaj 51 v0 v4 fun c1 =>
   call Qjx [.agg [(atP c1 0),(atP c1 1),(atP c1 2),(atP c1 3),(atP c1 4),(atP c1 5),(atP c1 6),(atP c1 7),(atP c1 8),(atP c1 9),(atP c1 10),(atP c1 11),(atP c1 12),(atP c1 13),(atP c1 14),(atP c1 15),(atP c1 16),(atP c1 17),(atP c1 18),(atP c1 19),(atP c1 20),(atP c1 21),(atP c1 22),(atP c1 23),(atP c1 24),(atP c1 25),(atP c1 26),(atP c1 27),(atP c1 28),(atP c1 29),(atP c1 30),(atP c1 31),(atP c1 32),(atP c1 33),(atP c1 34),(atP c1 35),(atP c1 36),(atP c1 37),(atP c1 38),(atP c1 39),(atP c1 40),(atP c1 41),(atP c1 42),(atP c1 43),(atP c1 44),(atP c1 45),(atP c1 46),(atP c1 47),(atP c1 48),(atP c1 49),(atP c1 50)],.ro (.cells [v1])] fun o2 =>
   xad (atP o2 0)
    (x0k v4)
    (xac .add v4 (I 1) fun r3 =>
    K [v0,v1,v2,v3,r3]))
   (x1k v0 v1 v2 v3 v4)) v
def Qjy:GM
 | [.one a0,.fn 338 [.cells u0]],k=>un 1 (fun a1 =>
  xaH a0 fun r0 =>
  lp (fun L w=>Qjy_r0 w L
   (fun q4=>rt [.sc] [q4] k)
   (fun q5 q6 q7 q8 q9=>rt [.sc] [(I (-1))] k)) [a0,a1,(I 0),r0,(I 0)]) u0
 | _,_=>False
def Qjy_l:List LE:=[⟨none,0,⟨[(0,.one zB),(1,.one (.fn 338 [.ro (.cells [(.bool false)])])),(4,.one zB),(7,.one zB),(8,.one zB)],[],[],0,19,[]⟩,fun K k v=>Qjy_r0 v K (fun x0=>k .ret ⟨[(4,.one (.pv x0))],[],[],1,19,[]⟩) (fun x0 x1 x2 x3 x4=>k (.exit 0) ⟨[(0,.one (.pv x0)),(1,.one (.fn 338 [.ro (.cells [x1])])),(4,.one (.pv x2)),(7,.one (.pv x3)),(8,.one (.pv x4))],[],[],0,19,[]⟩)⟩]
theorem Qjy_s:xaE [⟨[338],Qjx⟩] TT (kk [0,1,4,7,8]) Qjy_l f389 Qjy_l:=⟨fun v K k h=>by
 apply xab h;exact fun v0 v1 v2 v3 v4 h=>km h
 ,trivial⟩
theorem Qjy_w:EO ⟨[389,338],Qjy⟩:=oN (ec Qjx_w en) (keep:=(kk [0,1,4,7,8])) (l:=Qjy_l) func389 Qjy_s fun av k h=>by
 unfold Qjy at h;split at h
 ·apply xab h;clear h;intro a1 h;exact km h
 ·exact h.elim
def Qjz:GM
 | [.one a0,.fn 338 [.cells u0]],k=>un 1 (fun a1 =>
  call Qjy [.one a0,.fn 338 [.cells [a1]]] fun o0 =>
  xac .geq (atP o0 0) (I 0) fun r1 =>
  rt [.sc] [r1] k) u0
 | _,_=>False
theorem Qjz_w:EO ⟨[337,338],Qjz⟩:=oNz (ec Qjy_w en) func337 fun av k h=>by
 unfold Qjz at h;split at h
 ·apply xab h;clear h;intro a1 h;exact km h
 ·exact h.elim
def Qka:GM
 | [.agg u0,.one a2],k=>un 2 (fun a0 a1 =>
  xac .geq a2 (I 0) fun r0 =>
  xad r0
   (call Qjz [.one a1,.fn 338 [.cells [a2]]] fun o1 =>
   rt [.sc] [(atP o1 0)] k)
   (rt [.sc] [(.bool false)] k)) u0
 | _,_=>False
theorem Qka_w:EO ⟨[287],Qka⟩:=oFz (ec Qjz_w en) func287 fun av k h=>by
 unfold Qka at h;split at h
 ·apply xab h;clear h;intro a0 a1 h;exact km h
 ·exact h.elim
def Qkb_r0 (v:List PV) (K:List PV→Prop) (x0k:Cur 18) (x1k:Cur 18) (x2k:Cur 18) (x3k:Cur 18) (x4k:Cur 25):Prop :=
 un 25 (fun v0 v1 v2 v3 v4 v5 v6 v7 v8 v9 v10 v11 v12 v13 v14 v15 v16 v17 v18 v19 v20 v21 v22 v23 v24 =>
  let F2:=fun (c1:List PV) (r38:PV)=>call Qdo [.agg [(atP c1 2),(atP c1 3),(atP c1 4),(atP c1 5)]] fun o40 =>
   ((((((x2k v6 (atP c1 1) (atP o40 0) (atP o40 1) (atP o40 2) v12 v13 v14 v15 v16 (atP o40 3) r38 v17 v18 v19 v20 v23 v24)∧True)∧True)∧True)∧True)∧True)∧((((((x2k v6 (atP c1 1) (atP o40 0) (atP o40 1) (atP o40 2) v12 v13 v14 v15 v16 (atP o40 3) r38 v17 v18 v19 v20 v23 v24)∧True)∧True)∧True)∧True)∧True)∧True
  let F6:=fun (o2:List PV) (c1:List PV)=>(1=1)∧(1≤16777216)∧(1=1)∧(0=0)∧(1=1)∧(xae [.pv (I 0)] [.pv (atP o2 0)])∧xbh 1 v21 (.list 1 [[(atP o2 0)]]) fun r42 =>
   xac .eql (atP o2 0) (I 1) fun r43 =>
   xad r43
   (F2 c1 r42)
   (xac .add v6 (I 1) fun r45 =>
   K [v0,v1,v2,v3,v4,v5,r45,v7,v8,v9,v10,v11,v12,v13,v14,v15,v16,v17,v18,v19,v20,r42,v22,v23,v24])
  let F5:=fun (c1:List PV) (r51:PV)=>call Qdo [.agg [(atP c1 2),(atP c1 3),(atP c1 4),(atP c1 5)]] fun o53 =>
   ((((((x3k v6 (atP c1 1) (atP o53 0) (atP o53 1) (atP o53 2) v12 v13 v14 v15 v16 (atP o53 3) r51 v17 v18 v19 v20 v23 v24)∧True)∧True)∧True)∧True)∧True)∧((((((x3k v6 (atP c1 1) (atP o53 0) (atP o53 1) (atP o53 2) v12 v13 v14 v15 v16 (atP o53 3) r51 v17 v18 v19 v20 v23 v24)∧True)∧True)∧True)∧True)∧True)∧True
  let F0:=fun (o2:List PV) (c1:List PV)=>call Qdw [.one (I 6),.one (I 1),.one (I 3)] fun o33 =>
   xad (atP o33 0)
   (call Qka [.agg [v23,v24],.one v0] fun o34 =>
   unP .not (atP o34 0) fun r35 =>
   xac .eql (atP o2 0) (I 1) fun r36 =>
   xad r36
   (unP .not r35 fun r37 =>
   xad r37
   ((1=1)∧(1≤16777216)∧(1=1)∧(0=0)∧(1=1)∧(xae [.pv (I 0)] [.pv (I 3)])∧xbh 1 v21 (.list 1 [[(I 3)]]) fun r38 =>
   xac .eql (I 3) (I 1) fun r39 =>
   xad r39
   (F2 c1 r38)
   (xac .add v6 (I 1) fun r41 =>
   K [v0,v1,v2,v3,v4,v5,r41,v7,v8,v9,v10,v11,v12,v13,v14,v15,v16,v17,v18,v19,v20,r38,v22,v23,v24]))
   (F6 o2 c1))
   (F6 o2 c1))
   (xac .eql (atP o2 0) (I 1) fun r50 =>
   xad r50
   ((1=1)∧(1≤16777216)∧(1=1)∧(0=0)∧(1=1)∧(xae [.pv (I 0)] [.pv (I 3)])∧xbh 1 v21 (.list 1 [[(I 3)]]) fun r51 =>
   xac .eql (I 3) (I 1) fun r52 =>
   xad r52
   (F5 c1 r51)
   (xac .add v6 (I 1) fun r54 =>
   K [v0,v1,v2,v3,v4,v5,r54,v7,v8,v9,v10,v11,v12,v13,v14,v15,v16,v17,v18,v19,v20,r51,v22,v23,v24]))
   ((1=1)∧(1≤16777216)∧(1=1)∧(0=0)∧(1=1)∧(xae [.pv (I 0)] [.pv (atP o2 0)])∧xbh 1 v21 (.list 1 [[(atP o2 0)]]) fun r55 =>
   xac .eql (atP o2 0) (I 1) fun r56 =>
   xad r56
   (F5 c1 r55)
   (xac .add v6 (I 1) fun r58 =>
   K [v0,v1,v2,v3,v4,v5,r58,v7,v8,v9,v10,v11,v12,v13,v14,v15,v16,v17,v18,v19,v20,r55,v22,v23,v24])))
  let F1:=fun (c1:List PV) (r12:PV) (o6:List PV)=>call Qdo [.agg [(atP c1 2),(atP c1 3),(atP c1 4),(atP c1 5)]] fun o14 =>
   ((((((x0k v6 (atP c1 1) (atP o14 0) (atP o14 1) (atP o14 2) v12 v13 v14 v15 v16 (atP o14 3) r12 (atP o6 0) (atP o6 1) v17 v18 v19 v20)∧True)∧True)∧True)∧True)∧True)∧((((((x0k v6 (atP c1 1) (atP o14 0) (atP o14 1) (atP o14 2) v12 v13 v14 v15 v16 (atP o14 3) r12 (atP o6 0) (atP o6 1) v17 v18 v19 v20)∧True)∧True)∧True)∧True)∧True)∧True
  let F3:=fun (r12:PV) (o6:List PV)=>xac .add v6 (I 1) fun r15 =>
   K [v0,v1,v2,v3,v4,v5,r15,v7,v8,v9,v10,v11,v12,v13,v14,v15,v16,v17,v18,v19,v20,r12,v22,(atP o6 0),(atP o6 1)]
  let F4:=fun (c1:List PV) (r25:PV) (o6:List PV)=>call Qdo [.agg [(atP c1 2),(atP c1 3),(atP c1 4),(atP c1 5)]] fun o27 =>
   ((((((x1k v6 (atP c1 1) (atP o27 0) (atP o27 1) (atP o27 2) v12 v13 v14 v15 v16 (atP o27 3) r25 (atP o6 0) (atP o6 1) v17 v18 v19 v20)∧True)∧True)∧True)∧True)∧True)∧((((((x1k v6 (atP c1 1) (atP o27 0) (atP o27 1) (atP o27 2) v12 v13 v14 v15 v16 (atP o27 3) r25 (atP o6 0) (atP o6 1) v17 v18 v19 v20)∧True)∧True)∧True)∧True)∧True)∧True
  let F7:=fun (o2:List PV) (c1:List PV) (o6:List PV)=>(1=1)∧(1≤16777216)∧(1=1)∧(0=0)∧(1=1)∧(xae [.pv (I 0)] [.pv (atP o2 0)])∧xbh 1 v21 (.list 1 [[(atP o2 0)]]) fun r16 =>
   xac .eql (atP o2 0) (I 1) fun r17 =>
   xad r17
   (F1 c1 r16 o6)
   (F3 r16 o6)
  xac .lss v6 v5 fun r0 =>
  xad r0
   (xaj 21 v4 v6 fun c1 =>
   call Qjk [.one v0,.one v1,.agg [(atP c1 0),(atP c1 1),(atP c1 2),(atP c1 3),(atP c1 4),(atP c1 5),(atP c1 6),(atP c1 7),(atP c1 8),(atP c1 9),(atP c1 10),(atP c1 11),(atP c1 12),(atP c1 13),(atP c1 14),(atP c1 15),(atP c1 16),(atP c1 17),(atP c1 18),(atP c1 19),(atP c1 20)],.one v2] fun o2 =>
   call Qfj [.one (atP c1 0)] fun o3 =>
   xad (atP o3 0)
    (xaj 17 (atP c1 0) (I 0) fun c4 =>
    xac .eql (atP c4 0) v0 fun r5 =>
    xad r5
     (call Qjs [.agg [v23,v24],.one (atP c1 0)] fun o6 =>
     call Qdw [.one (atP o6 2),.one (I 1),.one (I 3)] fun o7 =>
     xad (atP o7 0)
      (call Qka [.agg [(atP o6 0),(atP o6 1)],.one v0] fun o8 =>
      unP .not (atP o8 0) fun r9 =>
      xac .eql (atP o2 0) (I 1) fun r10 =>
      xad r10
       (unP .not r9 fun r11 =>
       xad r11
        ((1=1)∧(1≤16777216)∧(1=1)∧(0=0)∧(1=1)∧(xae [.pv (I 0)] [.pv (I 3)])∧xbh 1 v21 (.list 1 [[(I 3)]]) fun r12 =>
        xac .eql (I 3) (I 1) fun r13 =>
        xad r13
         (F1 c1 r12 o6)
         (F3 r12 o6))
        (F7 o2 c1 o6))
       (F7 o2 c1 o6))
      (xac .eql (atP o2 0) (I 1) fun r24 =>
      xad r24
       ((1=1)∧(1≤16777216)∧(1=1)∧(0=0)∧(1=1)∧(xae [.pv (I 0)] [.pv (I 3)])∧xbh 1 v21 (.list 1 [[(I 3)]]) fun r25 =>
       xac .eql (I 3) (I 1) fun r26 =>
       xad r26
        (F4 c1 r25 o6)
        (F3 r25 o6))
       ((1=1)∧(1≤16777216)∧(1=1)∧(0=0)∧(1=1)∧(xae [.pv (I 0)] [.pv (atP o2 0)])∧xbh 1 v21 (.list 1 [[(atP o2 0)]]) fun r29 =>
       xac .eql (atP o2 0) (I 1) fun r30 =>
       xad r30
        (F4 c1 r29 o6)
        (F3 r29 o6))))
     (F0 o2 c1))
    (F0 o2 c1))
   (x4k v0 v1 v2 v3 v4 v5 v6 v7 v8 v9 v10 v11 v12 v13 v14 v15 v16 v17 v18 v19 v20 v21 v22 v23 v24)) v
def Qkb:GM
 | [.agg u0,.one a2,.one a3,.one a4,.one a5],k=>un 2 (fun a0 a1 =>
  call Qdq [.agg [a0,a1]] fun o0 =>
  xaH a2 fun r1 =>
  lp (fun L w=>Qkb_r0 w L
   (fun q85 q86 q87 q88 q89 q90 q91 q92 q93 q94 q95 q96 q97 q98 q99 q100 q101 q102=>rt g10 [q97,q98,q86,q87,q88,q89,q95,(.bool true),q96,q85] k)
   (fun q103 q104 q105 q106 q107 q108 q109 q110 q111 q112 q113 q114 q115 q116 q117 q118 q119 q120=>rt g10 [q115,q116,q104,q105,q106,q107,q113,(.bool true),q114,q103] k)
   (fun q121 q122 q123 q124 q125 q126 q127 q128 q129 q130 q131 q132 q133 q134 q135 q136 q137 q138=>rt g10 [q137,q138,q122,q123,q124,q125,q131,(.bool true),q132,q121] k)
   (fun q139 q140 q141 q142 q143 q144 q145 q146 q147 q148 q149 q150 q151 q152 q153 q154 q155 q156=>rt g10 [q155,q156,q140,q141,q142,q143,q149,(.bool true),q150,q139] k)
   (fun q157 q158 q159 q160 q161 q162 q163 q164 q165 q166 q167 q168 q169 q170 q171 q172 q173 q174 q175 q176 q177 q178 q179 q180 q181=>rt g10 [q180,q181,q164,q165,q166,q167,q179,q168,q178,(I (-1))] k)) [a3,a4,a5,(I 0),a2,r1,(I 0),(.bool false),(.str ⟨#[]⟩),(I 0),(I 0),(.bool false),(.bool false),(.str ⟨#[]⟩),(I 0),(I 0),(.bool false),(.list 1 []),(.list 1 []),(.list 51 []),(.list 1 []),(.list 1 []),(.list 1 []),(atP o0 0),(atP o0 1)]) u0
 | _,_=>False
def Qkb_l:List LE:=[⟨none,0,⟨[(2,.one zB),(3,.one zB),(4,.one zB),(10,.one (.ptr 1 0)),(11,.one zB),(12,.one (.ptr 4 0)),(18,.one zB),(19,.one zB),(20,.one zB)],[(4,[.own 2,.own 3,zB,zB,zB,zB,.own 5,zB,.own 6]),(1,[.own 7,.own 8,zB,zB,zB,zB,.own 9,zB,.own 10])],[(10,⟨.deep,3,1,(.bool false)⟩),(9,⟨.deep,9,1,(.bool false)⟩),(8,⟨.deep,259,51,(.bool false)⟩),(7,⟨.deep,90,1,(.bool false)⟩),(6,⟨.deep,3,1,(.bool false)⟩),(5,⟨.deep,9,1,(.bool false)⟩),(2,⟨.deep,90,1,(.bool false)⟩),(3,⟨.deep,259,51,(.bool false)⟩)],11,42,[]⟩,fun K k v=>Qkb_r0 v K (fun x0 x1 x2 x3 x4 x5 x6 x7 x8 x9 x10 x11 x12 x13 x14 x15 x16 x17=>k .ret ⟨[(10,.one (.ptr 1 0)),(11,.one (.pv x0))],[(1,[.own 15,.own 16,.pv x1,.pv x2,.pv x3,.pv x4,.own 25,.kb true,.own 21]),(1,[.own 7,.own 8,.pv x5,.pv x6,.pv x7,.pv x8,.own 9,.pv x9,.own 10])],[(25,⟨.deep,9,1,x10⟩),(21,⟨.deep,3,1,x11⟩),(15,⟨.deep,90,1,x12⟩),(16,⟨.deep,259,51,x13⟩),(10,⟨.deep,3,1,x14⟩),(9,⟨.deep,9,1,x15⟩),(8,⟨.deep,259,51,x16⟩),(7,⟨.deep,90,1,x17⟩)],26,42,[]⟩) (fun x0 x1 x2 x3 x4 x5 x6 x7 x8 x9 x10 x11 x12 x13 x14 x15 x16 x17=>k .ret ⟨[(10,.one (.ptr 1 0)),(11,.one (.pv x0))],[(1,[.own 15,.own 16,.pv x1,.pv x2,.pv x3,.pv x4,.own 24,.kb true,.own 20]),(1,[.own 7,.own 8,.pv x5,.pv x6,.pv x7,.pv x8,.own 9,.pv x9,.own 10])],[(24,⟨.deep,9,1,x10⟩),(20,⟨.deep,3,1,x11⟩),(15,⟨.deep,90,1,x12⟩),(16,⟨.deep,259,51,x13⟩),(10,⟨.deep,3,1,x14⟩),(9,⟨.deep,9,1,x15⟩),(8,⟨.deep,259,51,x16⟩),(7,⟨.deep,90,1,x17⟩)],25,42,[]⟩) (fun x0 x1 x2 x3 x4 x5 x6 x7 x8 x9 x10 x11 x12 x13 x14 x15 x16 x17=>k .ret ⟨[(10,.one (.ptr 1 0)),(11,.one (.pv x0))],[(1,[.own 2,.own 3,.pv x1,.pv x2,.pv x3,.pv x4,.own 22,.kb true,.own 18]),(1,[.own 7,.own 8,.pv x5,.pv x6,.pv x7,.pv x8,.own 9,.pv x9,.own 10])],[(22,⟨.deep,9,1,x10⟩),(18,⟨.deep,3,1,x11⟩),(10,⟨.deep,3,1,x12⟩),(9,⟨.deep,9,1,x13⟩),(8,⟨.deep,259,51,x14⟩),(7,⟨.deep,90,1,x15⟩),(2,⟨.deep,90,1,x16⟩),(3,⟨.deep,259,51,x17⟩)],23,42,[]⟩) (fun x0 x1 x2 x3 x4 x5 x6 x7 x8 x9 x10 x11 x12 x13 x14 x15 x16 x17=>k .ret ⟨[(10,.one (.ptr 1 0)),(11,.one (.pv x0))],[(1,[.own 2,.own 3,.pv x1,.pv x2,.pv x3,.pv x4,.own 21,.kb true,.own 17]),(1,[.own 7,.own 8,.pv x5,.pv x6,.pv x7,.pv x8,.own 9,.pv x9,.own 10])],[(21,⟨.deep,9,1,x10⟩),(17,⟨.deep,3,1,x11⟩),(10,⟨.deep,3,1,x12⟩),(9,⟨.deep,9,1,x13⟩),(8,⟨.deep,259,51,x14⟩),(7,⟨.deep,90,1,x15⟩),(2,⟨.deep,90,1,x16⟩),(3,⟨.deep,259,51,x17⟩)],22,42,[]⟩) (fun x0 x1 x2 x3 x4 x5 x6 x7 x8 x9 x10 x11 x12 x13 x14 x15 x16 x17 x18 x19 x20 x21 x22 x23 x24=>k (.exit 0) ⟨[(2,.one (.pv x0)),(3,.one (.pv x1)),(4,.one (.pv x2)),(10,.one (.ptr 1 0)),(11,.one (.pv x3)),(12,.one (.ptr 4 0)),(18,.one (.pv x4)),(19,.one (.pv x5)),(20,.one (.pv x6))],[(4,[.own 2,.own 3,.pv x7,.pv x8,.pv x9,.pv x10,.own 5,.pv x11,.own 6]),(1,[.own 7,.own 8,.pv x12,.pv x13,.pv x14,.pv x15,.own 9,.pv x16,.own 10])],[(10,⟨.deep,3,1,x17⟩),(9,⟨.deep,9,1,x18⟩),(8,⟨.deep,259,51,x19⟩),(7,⟨.deep,90,1,x20⟩),(6,⟨.deep,3,1,x21⟩),(5,⟨.deep,9,1,x22⟩),(2,⟨.deep,90,1,x23⟩),(3,⟨.deep,259,51,x24⟩)],11,42,[]⟩)⟩]
theorem Qkb_s:xaE [⟨[198],Qdq⟩,⟨[230],Qjk⟩,⟨[267],Qfj⟩,⟨[286],Qjs⟩,⟨[266],Qdw⟩,⟨[287],Qka⟩,⟨[229],Qdo⟩] TT.nofl (kk [2,3,4,10,11,12,18,19,20,999999]) Qkb_l f163 Qkb_l:=⟨fun v K k h=>by
 apply xab h;(repeat intro _);rename_i h;exact km h
 ,trivial⟩
theorem Qkb_w:EO ⟨[163],Qkb⟩:=oF (ec Qdq_w (ec Qjk_w (ec Qfj_w (ec Qjs_w (ec Qdw_w (ec Qka_w (ec Qdo_w en))))))) (keep:=(kk [2,3,4,10,11,12,18,19,20,999999])) (l:=Qkb_l) func163 Qkb_s fun av k h=>by
 unfold Qkb at h;split at h
 ·apply xab h;clear h;intro a0 a1 h;exact km h
 ·exact h.elim
def Qkc_r0 (v:List PV) (K:List PV→Prop) (x0k:PV→Prop) (x1k:Cur 5):Prop :=
 un 5 (fun v0 v1 v2 v3 v4 =>
  xaH v4 fun r0 =>
  xac .lss v3 r0 fun r1 =>
  xad r1
   (xaj 23 v4 v3 fun c2 =>
   xac .eql (atP c2 0) v0 fun r3 =>
   xad r3
    (xaj 23 v4 v3 fun c4 =>
    xac .eql (atP c4 1) v1 fun r5 =>
    xad r5
     (x0k v3)
     (xac .add v3 (I 1) fun r6 =>
     K [v0,v1,v2,r6,v4]))
    (xac .add v3 (I 1) fun r7 =>
    K [v0,v1,v2,r7,v4]))
   (x1k v0 v1 v2 v3 v4)) v
def Qkc:GM
 | [.agg u0,.one a1,.one a2],k=>un 1 (fun a0 =>
  lp (fun L w=>Qkc_r0 w L
   (fun q8=>rt [.sc] [q8] k)
   (fun q9 q10 q11 q12 q13=>rt [.sc] [(I (-1))] k)) [a1,a2,(I 0),(I 0),a0]) u0
 | _,_=>False
def Qkc_l:List LE:=[⟨none,0,⟨[(1,.one zB),(2,.one zB),(3,.one (.ptr 0 0)),(6,.one zB),(7,.one zB)],[(0,[zB])],[],1,34,[]⟩,fun K k v=>Qkc_r0 v K (fun x0=>k .ret ⟨[(6,.one (.pv x0))],[],[],1,34,[]⟩) (fun x0 x1 x2 x3 x4=>k (.exit 0) ⟨[(1,.one (.pv x0)),(2,.one (.pv x1)),(3,.one (.ptr 0 0)),(6,.one (.pv x2)),(7,.one (.pv x3))],[(0,[.pv x4])],[],1,34,[]⟩)⟩]
theorem Qkc_s:xaE [] TT (kk [1,2,3,6,7,24,25,26,27,28,29,30,31,999999]) Qkc_l f223 Qkc_l:=⟨fun v K k h=>by
 apply xab h;exact fun v0 v1 v2 v3 v4 h=>km h
 ,trivial⟩
theorem Qkc_w:EO ⟨[223],Qkc⟩:=oN en (keep:=(kk [1,2,3,6,7,24,25,26,27,28,29,30,31,999999])) (l:=Qkc_l) func223 Qkc_s fun av k h=>by
 unfold Qkc at h;split at h
 ·apply xab h;clear h;intro a0 h;exact km h
 ·exact h.elim
def Qkd:GM
 | [.agg u0,.one a1,.one a2],k=>un 1 (fun a0 =>
  call Qkc [.agg [a0],.one a1,.one a2] fun o0 =>
  xac .lss (atP o0 0) (I 0) fun r1 =>
  xad r1
   (rt g2 [(.list 17 []),(.bool false),(.str ⟨#[]⟩),(I 0),(I 0),(.list 1 []),(I 0),(.list 1 []),(I 0),(.str ⟨#[]⟩),(I 0),(I 0),(.list 1 []),(.str ⟨#[]⟩),(I 0),(I 0),(.list 1 []),(I 0),(.list 1 []),(I 0),(.list 1 [])] k)
   (xaj 23 a0 (atP o0 0) fun c2 =>
   call Qbm [.agg [(atP c2 2),(atP c2 3),(atP c2 4),(atP c2 5),(atP c2 6),(atP c2 7),(atP c2 8),(atP c2 9),(atP c2 10),(atP c2 11),(atP c2 12),(atP c2 13),(atP c2 14),(atP c2 15),(atP c2 16),(atP c2 17),(atP c2 18),(atP c2 19),(atP c2 20),(atP c2 21),(atP c2 22)]] fun o3 =>
   rt g2 (s21 o3) k)) u0
 | _,_=>False
theorem Qkd_w:EO ⟨[153],Qkd⟩:=oNz (ec Qkc_w (ec Qbm_w en)) func153 fun av k h=>by
 unfold Qkd at h;split at h
 ·apply xab h;clear h;intro a0 h;exact km h
 ·exact h.elim
def Qke_r0 (v:List PV) (K:List PV→Prop) (x0k:Cur 7) (x1k:Cur 6):Prop :=
 un 6 (fun v0 v1 v2 v3 v4 v5 =>
  xaH v0 fun r0 =>
  xac .lss v3 r0 fun r1 =>
  xad r1
   (xac .lss v3 (I 4) fun r2 =>
   xad r2
    (xaj 2 v0 v3 fun c3 =>
    call Qho [.agg [(atP c3 0),(atP c3 1)],.one v1,.one v2] fun o4 =>
    (1=1)∧(21≤16777216)∧(21=21)∧(0=0)∧(21=21)∧xbh 21 v5 (.list 21 [(s21 o4)]) fun r5 =>
    xac .add v3 (I 1) fun r6 =>
    K [v0,v1,v2,r6,v4,r5])
    (x0k v0 v1 v2 v3 r2 v4 v5))
   (x1k v0 v1 v2 v3 v4 v5)) v
def Qke:GM
 | [.one a0,.one a1,.one a2],k =>
  (0=0)∧(0≤16777216)∧(21=21)∧lp (fun L w=>Qke_r0 w L
   (fun q7 q8 q9 q10 q11 q12 q13=>rt [.pv] [q13] k)
   (fun q14 q15 q16 q17 q18 q19=>rt [.pv] [q19] k)) [a0,a1,a2,(I 0),(.list 21 []),(.list 21 [])]
 | _,_=>False
def Qke_l:List LE:=[⟨none,0,⟨[(0,.one zB),(1,.one zB),(2,.one zB),(6,.one (.own 1)),(7,.one (.own 0)),(8,.one zB)],[],[(1,⟨.flat,150,21,(.bool false)⟩),(0,⟨.flat,150,21,(.bool false)⟩)],2,31,[]⟩,fun K k v=>Qke_r0 v K (fun x0 x1 x2 x3 x4 x5 x6=>k (.exit 0) ⟨[(0,.one (.pv x0)),(1,.one (.pv x1)),(2,.one (.pv x2)),(6,.one (.own 1)),(7,.one (.own 0)),(8,.one (.pv x3)),(15,.one (.pv x3)),(16,.one (.pv x4))],[],[(1,⟨.flat,150,21,x5⟩),(0,⟨.flat,150,21,x6⟩)],2,31,[]⟩) (fun x0 x1 x2 x3 x4 x5=>k (.exit 0) ⟨[(0,.one (.pv x0)),(1,.one (.pv x1)),(2,.one (.pv x2)),(6,.one (.own 1)),(7,.one (.own 0)),(8,.one (.pv x3)),(15,.undef),(16,.undef)],[],[(1,⟨.flat,150,21,x4⟩),(0,⟨.flat,150,21,x5⟩)],2,31,[]⟩)⟩]
theorem Qke_s:xaE [⟨[170],Qho⟩] TT (kk [0,1,2,6,7,8,15,16,999999]) Qke_l f154 Qke_l:=⟨fun v K k h=>by
 apply xab h;exact fun v0 v1 v2 v3 v4 v5 h=>km h
 ,trivial⟩
theorem Qke_w:EO ⟨[154],Qke⟩:=oN (ec Qho_w en) (keep:=(kk [0,1,2,6,7,8,15,16,999999])) (l:=Qke_l) func154 Qke_s fun av k h=>by
 unfold Qke at h;split at h
 ·exact km h
 ·exact h.elim
def Qkf:GM
 | [.agg u0,.one a1,.one a2,.agg u1,.one a24],k=>un 1 (fun a0=>un 21 (fun a3 a4 a5 a6 a7 a8 a9 a10 a11 a12 a13 a14 a15 a16 a17 a18 a19 a20 a21 a22 a23 =>
  call Qbn [.agg [a0]] fun o0 =>
  call Qif [.one a1,.one a2,.agg [a3,a4,a5,a6,a7,a8,a9,a10,a11,a12,a13,a14,a15,a16,a17,a18,a19,a20,a21,a22,a23],.one a24] fun o1 =>
  xac .neq (atP o1 0) (I 1) fun r2 =>
  xad r2
   (rt [.pv] [(atP o0 0)] k)
   (call Qbm [.agg [a3,a4,a5,a6,a7,a8,a9,a10,a11,a12,a13,a14,a15,a16,a17,a18,a19,a20,a21,a22,a23]] fun o3 =>
   call Qkc [.agg [a0],.one a1,.one a2] fun o4 =>
   xac .geq (atP o4 0) (I 0) fun r5 =>
   xad r5
    (xc6 23 (atP o0 0) (atP o4 0) fun n6 =>
    xl5 (atP o0 0) n6 0 [a1,a2,(atP o3 0),(atP o3 1),(atP o3 2),(atP o3 3),(atP o3 4),(atP o3 5),(atP o3 6),(atP o3 7),(atP o3 8),(atP o3 9),(atP o3 10),(atP o3 11),(atP o3 12),(atP o3 13),(atP o3 14),(atP o3 15),(atP o3 16),(atP o3 17),(atP o3 18),(atP o3 19),(atP o3 20)] fun r7 =>
    rt [.pv] [r7] k)
    (xaH a0 fun r8 =>
    xac .lss r8 (I 16) fun r9 =>
    xad r9
     ((1=1)∧(23≤16777216)∧(23=23)∧(0=0)∧(23=23)∧xbh 23 (atP o0 0) (.list 23 [[a1,a2,(atP o3 0),(atP o3 1),(atP o3 2),(atP o3 3),(atP o3 4),(atP o3 5),(atP o3 6),(atP o3 7),(atP o3 8),(atP o3 9),(atP o3 10),(atP o3 11),(atP o3 12),(atP o3 13),(atP o3 14),(atP o3 15),(atP o3 16),(atP o3 17),(atP o3 18),(atP o3 19),(atP o3 20)]]) fun r10 =>
     rt [.pv] [r10] k)
     (rt [.pv] [(atP o0 0)] k)))) u1) u0
 | _,_=>False
theorem Qkf_w:EO ⟨[155],Qkf⟩:=oNz (ec Qbn_w (ec Qif_w (ec Qbm_w (ec Qkc_w en)))) func155 fun av k h=>by
 unfold Qkf at h;split at h
 ·apply xab h;clear h;intro a0 h;apply xab h;clear h;(repeat intro _);rename_i h;exact km h
 ·exact h.elim
def Qkg:GM
 | [.agg u0],k=>un 9 (fun a0 a1 a2 a3 a4 a5 a6 a7 a8 =>
  unP .not a7 fun r0 =>
  xad r0
   (rt g11 [(.str ⟨#[]⟩),(I 0),(I 0),(.list 1 []),(.bool false)] k)
   (unP .not a2 fun r1 =>
   xad r1
    (rt g11 [(.str ⟨#[]⟩),(I 0),(I 0),(.list 1 []),(.bool false)] k)
    (call Qbj [.agg [a3,a4,a5,a6]] fun o2 =>
    rt g11 [(atP o2 0),(atP o2 1),(atP o2 2),(atP o2 3),(.bool true)] k))) u0
 | _,_=>False
theorem Qkg_w:EO ⟨[156],Qkg⟩:=oNz (ec Qbj_w en) func156 fun av k h=>by
 unfold Qkg at h;split at h
 ·apply xab h;clear h;(repeat intro _);rename_i h;exact km h
 ·exact h.elim
def Qkh:GM
 | [.agg u0],k=>un 9 (fun a0 a1 a2 a3 a4 a5 a6 a7 a8 =>
  xad a7
   (unP .not a2 fun r0 =>
   rt [.sc] [r0] k)
   (rt [.sc] [(.bool false)] k)) u0
 | _,_=>False
theorem Qkh_w:EO ⟨[157],Qkh⟩:=oNz en func157 fun av k h=>by
 unfold Qkh at h;split at h
 ·apply xab h;clear h;(repeat intro _);rename_i h;exact km h
 ·exact h.elim
def Qki_r0 (v:List PV) (K:List PV→Prop) (x0k:Cur 19) (x1k:Cur 19) (x2k:Cur 19) (x3k:Cur 19) (x4k:Cur 19) (x5k:Cur 19) (x6k:Cur 19) (x7k:Cur 19) (x8k:Cur 19) (x9k:Cur 19) (x10k:Cur 19) (x11k:Cur 19) (x12k:Cur 19) (x13k:Cur 19) (x14k:Cur 19) (x15k:Cur 19):Prop :=
 un 24 (fun v0 v1 v2 v3 v4 v5 v6 v7 v8 v9 v10 v11 v12 v13 v14 v15 v16 v17 v18 v19 v20 v21 v22 v23 =>
  (1=1)∧(1≤16777216)∧(1=1)∧(0=0)∧(1=1)∧(xae [.pv (I 0)] [.pv v2])∧xbh 1 v23 (.list 1 [[v2]]) fun r0 =>
  xaj 1 v3 (I 0) fun c1 =>
  call Qkd [.agg [v4],.one v2,.one (atP c1 0)] fun o2 =>
  (1=1)∧(21≤16777216)∧(21=21)∧(0=0)∧(21=21)∧xaj 1 v3 (I 0) fun c3 =>
  call Qke [.one v0,.one v2,.one (atP c3 0)] fun o4 =>
  xbh 21 (.list 21 [[(atP o2 0),(atP o2 1),(atP o2 2),(atP o2 3),(atP o2 4),(atP o2 5),(atP o2 6),(atP o2 7),(atP o2 8),(atP o2 9),(atP o2 10),(atP o2 11),(atP o2 12),(atP o2 13),(atP o2 14),(atP o2 15),(atP o2 16),(atP o2 17),(atP o2 18),(atP o2 19),(atP o2 20)]]) (atP o4 0) fun r5 =>
  xaj 1 v3 (I 0) fun c6 =>
  ((call Qik [.agg [v5,v6],.one r5,.one v2,.one (atP c6 0),.one v1] fun o7 =>
  (xad (atP o7 7)
   (xaj 1 v3 (I 0) fun c8 =>
   xaH (atP o7 8) fun r9 =>
   xac .sub r9 (I 1) fun r10 =>
   xaj 21 r5 r10 fun c11 =>
   call Qkf [.agg [v4],.one v2,.one (atP c8 0),.agg [(atP c11 0),(atP c11 1),(atP c11 2),(atP c11 3),(atP c11 4),(atP c11 5),(atP c11 6),(atP c11 7),(atP c11 8),(atP c11 9),(atP c11 10),(atP c11 11),(atP c11 12),(atP c11 13),(atP c11 14),(atP c11 15),(atP c11 16),(atP c11 17),(atP c11 18),(atP c11 19),(atP c11 20)],.one v1] fun o12 =>
   call Qkg [.agg [(atP o7 0),(atP o7 1),(atP o7 2),(atP o7 3),(atP o7 4),(atP o7 5),(atP o7 6),(atP o7 7),(atP o7 8)]] fun o13 =>
   call Qkh [.agg [(atP o7 0),(atP o7 1),(atP o7 2),(atP o7 3),(atP o7 4),(atP o7 5),(atP o7 6),(atP o7 7),(atP o7 8)]] fun o14 =>
   xad (atP o14 0)
    (x0k (atP o7 0) (atP o7 1) v8 v9 v10 v11 v12 (atP o12 0) v13 v14 v15 v16 v17 v18 v19 v20 v21 r0 v22)
    (unP .not (atP o13 4) fun r15 =>
    xad r15
     (x1k (atP o7 0) (atP o7 1) v8 v9 v10 v11 v12 (atP o12 0) v13 v14 v15 v16 v17 v18 v19 v20 v21 r0 v22)
     (xac .eql (atP o13 1) (I 3) fun r16 =>
     xad r16
      (call Qbi [.one (atP o13 3)] fun o17 =>
      xgE (I 1) fun n18 =>
      xfS 1 v3 (some n18) none fun r19 =>
      (xa4 r19)∧xbh 1 (atP o17 0) r19 fun r20 =>
      xac .geq v12 (I 3) fun r21 =>
      xad r21
       (x2k (atP o7 0) (atP o7 1) v8 v9 v10 v11 v12 (atP o12 0) v13 v14 v15 v16 v17 v18 v19 v20 v21 r0 v22)
       (call Qcq [.one r20] fun o22 =>
       unP .not (atP o22 0) fun r23 =>
       xad r23
        (x3k (atP o7 0) (atP o7 1) v8 v9 v10 v11 v12 (atP o12 0) v13 v14 v15 v16 v17 v18 v19 v20 v21 r0 v22)
        (xac .add v12 (I 1) fun r24 =>
        K [v0,v1,(atP o13 2),r20,(atP o12 0),(atP o7 0),(atP o7 1),v7,v8,v9,v10,v11,r24,v13,v14,v15,v16,v17,v18,v19,v20,v21,v22,r0])))
      (xaH v3 fun r25 =>
      xac .eql r25 (I 1) fun r26 =>
      xad r26
       (x4k (atP o7 0) (atP o7 1) (atP o13 0) (atP o13 1) (atP o13 2) (atP o13 3) v12 (atP o12 0) v13 v14 v15 v16 v17 v18 v19 v20 v21 r0 v22)
       (xac .neq (atP o13 1) (I 2) fun r27 =>
       xad r27
        (x5k (atP o7 0) (atP o7 1) v8 v9 v10 v11 v12 (atP o12 0) v13 v14 v15 v16 v17 v18 v19 v20 v21 r0 v22)
        (xgE (I 1) fun n28 =>
        xfS 1 v3 (some n28) none fun r29 =>
        K [v0,v1,(atP o13 2),r29,(atP o12 0),(atP o7 0),(atP o7 1),v7,v8,v9,v10,v11,v12,v13,v14,v15,v16,v17,v18,v19,v20,v21,v22,r0]))))))
   (call Qkg [.agg [(atP o7 0),(atP o7 1),(atP o7 2),(atP o7 3),(atP o7 4),(atP o7 5),(atP o7 6),(atP o7 7),(atP o7 8)]] fun o30 =>
   call Qkh [.agg [(atP o7 0),(atP o7 1),(atP o7 2),(atP o7 3),(atP o7 4),(atP o7 5),(atP o7 6),(atP o7 7),(atP o7 8)]] fun o31 =>
   xad (atP o31 0)
    (x6k (atP o7 0) (atP o7 1) v8 v9 v10 v11 v12 v4 v13 v14 v15 v16 v17 v18 v19 v20 v21 r0 v22)
    (unP .not (atP o30 4) fun r32 =>
    xad r32
     (x7k (atP o7 0) (atP o7 1) v8 v9 v10 v11 v12 v4 v13 v14 v15 v16 v17 v18 v19 v20 v21 r0 v22)
     (xac .eql (atP o30 1) (I 3) fun r33 =>
     xad r33
      (call Qbi [.one (atP o30 3)] fun o34 =>
      xgE (I 1) fun n35 =>
      xfS 1 v3 (some n35) none fun r36 =>
      (xa4 r36)∧xbh 1 (atP o34 0) r36 fun r37 =>
      xac .geq v12 (I 3) fun r38 =>
      xad r38
       (x8k (atP o7 0) (atP o7 1) v8 v9 v10 v11 v12 v4 v13 v14 v15 v16 v17 v18 v19 v20 v21 r0 v22)
       (call Qcq [.one r37] fun o39 =>
       unP .not (atP o39 0) fun r40 =>
       xad r40
        (x2k (atP o7 0) (atP o7 1) v8 v9 v10 v11 v12 v4 v13 v14 v15 v16 v17 v18 v19 v20 v21 r0 v22)
        (xac .add v12 (I 1) fun r41 =>
        K [v0,v1,(atP o30 2),r37,v4,(atP o7 0),(atP o7 1),v7,v8,v9,v10,v11,r41,v13,v14,v15,v16,v17,v18,v19,v20,v21,v22,r0])))
      (xaH v3 fun r42 =>
      xac .eql r42 (I 1) fun r43 =>
      xad r43
       (x9k (atP o7 0) (atP o7 1) (atP o30 0) (atP o30 1) (atP o30 2) (atP o30 3) v12 v4 v13 v14 v15 v16 v17 v18 v19 v20 v21 r0 v22)
       (xac .neq (atP o30 1) (I 2) fun r44 =>
       xad r44
        (x10k (atP o7 0) (atP o7 1) v8 v9 v10 v11 v12 v4 v13 v14 v15 v16 v17 v18 v19 v20 v21 r0 v22)
        (xgE (I 1) fun n45 =>
        xfS 1 v3 (some n45) none fun r46 =>
        K [v0,v1,(atP o30 2),r46,v4,(atP o7 0),(atP o7 1),v7,v8,v9,v10,v11,v12,v13,v14,v15,v16,v17,v18,v19,v20,v21,v22,r0])))))))∧True)∧True)∧(call Qik [.agg [v5,v6],.one r5,.one v2,.one (atP c6 0),.one v1] fun o47 =>
  ((xad (atP o47 7)
   (xaj 1 v3 (I 0) fun c48 =>
   xaH (atP o47 8) fun r49 =>
   xac .sub r49 (I 1) fun r50 =>
   xaj 21 r5 r50 fun c51 =>
   call Qkf [.agg [v4],.one v2,.one (atP c48 0),.agg [(atP c51 0),(atP c51 1),(atP c51 2),(atP c51 3),(atP c51 4),(atP c51 5),(atP c51 6),(atP c51 7),(atP c51 8),(atP c51 9),(atP c51 10),(atP c51 11),(atP c51 12),(atP c51 13),(atP c51 14),(atP c51 15),(atP c51 16),(atP c51 17),(atP c51 18),(atP c51 19),(atP c51 20)],.one v1] fun o52 =>
   call Qkg [.agg [(atP o47 0),(atP o47 1),(atP o47 2),(atP o47 3),(atP o47 4),(atP o47 5),(atP o47 6),(atP o47 7),(atP o47 8)]] fun o53 =>
   call Qkh [.agg [(atP o47 0),(atP o47 1),(atP o47 2),(atP o47 3),(atP o47 4),(atP o47 5),(atP o47 6),(atP o47 7),(atP o47 8)]] fun o54 =>
   xad (atP o54 0)
    (x11k (atP o47 0) (atP o47 1) v8 v9 v10 v11 v12 (atP o52 0) v13 v14 v15 v16 v17 v18 v19 v20 v21 r0 v22)
    (unP .not (atP o53 4) fun r55 =>
    xad r55
     (x12k (atP o47 0) (atP o47 1) v8 v9 v10 v11 v12 (atP o52 0) v13 v14 v15 v16 v17 v18 v19 v20 v21 r0 v22)
     (xac .eql (atP o53 1) (I 3) fun r56 =>
     xad r56
      (call Qbi [.one (atP o53 3)] fun o57 =>
      xgE (I 1) fun n58 =>
      xfS 1 v3 (some n58) none fun r59 =>
      (xa4 r59)∧xbh 1 (atP o57 0) r59 fun r60 =>
      xac .geq v12 (I 3) fun r61 =>
      xad r61
       (x3k (atP o47 0) (atP o47 1) v8 v9 v10 v11 v12 (atP o52 0) v13 v14 v15 v16 v17 v18 v19 v20 v21 r0 v22)
       (call Qcq [.one r60] fun o62 =>
       unP .not (atP o62 0) fun r63 =>
       xad r63
        (x13k (atP o47 0) (atP o47 1) v8 v9 v10 v11 v12 (atP o52 0) v13 v14 v15 v16 v17 v18 v19 v20 v21 r0 v22)
        (xac .add v12 (I 1) fun r64 =>
        K [v0,v1,(atP o53 2),r60,(atP o52 0),(atP o47 0),(atP o47 1),v7,v8,v9,v10,v11,r64,v13,v14,v15,v16,v17,v18,v19,v20,v21,v22,r0])))
      (xaH v3 fun r65 =>
      xac .eql r65 (I 1) fun r66 =>
      xad r66
       (x14k (atP o47 0) (atP o47 1) (atP o53 0) (atP o53 1) (atP o53 2) (atP o53 3) v12 (atP o52 0) v13 v14 v15 v16 v17 v18 v19 v20 v21 r0 v22)
       (xac .neq (atP o53 1) (I 2) fun r67 =>
       xad r67
        (x15k (atP o47 0) (atP o47 1) v8 v9 v10 v11 v12 (atP o52 0) v13 v14 v15 v16 v17 v18 v19 v20 v21 r0 v22)
        (xgE (I 1) fun n68 =>
        xfS 1 v3 (some n68) none fun r69 =>
        K [v0,v1,(atP o53 2),r69,(atP o52 0),(atP o47 0),(atP o47 1),v7,v8,v9,v10,v11,v12,v13,v14,v15,v16,v17,v18,v19,v20,v21,v22,r0]))))))
   (call Qkg [.agg [(atP o47 0),(atP o47 1),(atP o47 2),(atP o47 3),(atP o47 4),(atP o47 5),(atP o47 6),(atP o47 7),(atP o47 8)]] fun o70 =>
   call Qkh [.agg [(atP o47 0),(atP o47 1),(atP o47 2),(atP o47 3),(atP o47 4),(atP o47 5),(atP o47 6),(atP o47 7),(atP o47 8)]] fun o71 =>
   xad (atP o71 0)
    (x0k (atP o47 0) (atP o47 1) v8 v9 v10 v11 v12 v4 v13 v14 v15 v16 v17 v18 v19 v20 v21 r0 v22)
    (unP .not (atP o70 4) fun r72 =>
    xad r72
     (x1k (atP o47 0) (atP o47 1) v8 v9 v10 v11 v12 v4 v13 v14 v15 v16 v17 v18 v19 v20 v21 r0 v22)
     (xac .eql (atP o70 1) (I 3) fun r73 =>
     xad r73
      (call Qbi [.one (atP o70 3)] fun o74 =>
      xgE (I 1) fun n75 =>
      xfS 1 v3 (some n75) none fun r76 =>
      (xa4 r76)∧xbh 1 (atP o74 0) r76 fun r77 =>
      xac .geq v12 (I 3) fun r78 =>
      xad r78
       (x2k (atP o47 0) (atP o47 1) v8 v9 v10 v11 v12 v4 v13 v14 v15 v16 v17 v18 v19 v20 v21 r0 v22)
       (call Qcq [.one r77] fun o79 =>
       unP .not (atP o79 0) fun r80 =>
       xad r80
        (x3k (atP o47 0) (atP o47 1) v8 v9 v10 v11 v12 v4 v13 v14 v15 v16 v17 v18 v19 v20 v21 r0 v22)
        (xac .add v12 (I 1) fun r81 =>
        K [v0,v1,(atP o70 2),r77,v4,(atP o47 0),(atP o47 1),v7,v8,v9,v10,v11,r81,v13,v14,v15,v16,v17,v18,v19,v20,v21,v22,r0])))
      (xaH v3 fun r82 =>
      xac .eql r82 (I 1) fun r83 =>
      xad r83
       (x4k (atP o47 0) (atP o47 1) (atP o70 0) (atP o70 1) (atP o70 2) (atP o70 3) v12 v4 v13 v14 v15 v16 v17 v18 v19 v20 v21 r0 v22)
       (xac .neq (atP o70 1) (I 2) fun r84 =>
       xad r84
        (x5k (atP o47 0) (atP o47 1) v8 v9 v10 v11 v12 v4 v13 v14 v15 v16 v17 v18 v19 v20 v21 r0 v22)
        (xgE (I 1) fun n85 =>
        xfS 1 v3 (some n85) none fun r86 =>
        K [v0,v1,(atP o70 2),r86,v4,(atP o47 0),(atP o47 1),v7,v8,v9,v10,v11,v12,v13,v14,v15,v16,v17,v18,v19,v20,v21,v22,r0])))))))∧True)∧True)∧True) v
def Qki:GM
 | [.agg u0,.agg u1,.one a3,.one a4,.one a5,.one a6],k=>un 2 (fun a0 a1=>un 1 (fun a2 =>
  call Qbh [.agg [a0,a1]] fun o0 =>
  call Qbn [.agg [a2]] fun o1 =>
  call Qcq [.one a5] fun o2 =>
  unP .not (atP o2 0) fun r3 =>
  xad r3
   (rt g0 [(atP o0 0),(atP o0 1),(I 6),(.str ⟨#[]⟩),(I 0),(I 0),(.list 1 []),(.list 1 []),(I 0),(atP o1 0)] k)
   (call Qbi [.one a5] fun o4 =>
   lp (fun L w=>Qki_r0 w L
    (fun q87 q88 q89 q90 q91 q92 q93 q94 q95 q96 q97 q98 q99 q100 q101 q102 q103 q104 q105=>rt g0 [q87,q88,(I 2),q89,q90,q91,q92,q104,q93,q94] k)
    (fun q106 q107 q108 q109 q110 q111 q112 q113 q114 q115 q116 q117 q118 q119 q120 q121 q122 q123 q124=>rt g0 [q106,q107,(I 3),q108,q109,q110,q111,q123,q112,q113] k)
    (fun q125 q126 q127 q128 q129 q130 q131 q132 q133 q134 q135 q136 q137 q138 q139 q140 q141 q142 q143=>rt g0 [q125,q126,(I 5),q127,q128,q129,q130,q142,q131,q132] k)
    (fun q144 q145 q146 q147 q148 q149 q150 q151 q152 q153 q154 q155 q156 q157 q158 q159 q160 q161 q162=>rt g0 [q144,q145,(I 5),q146,q147,q148,q149,q161,q150,q151] k)
    (fun q163 q164 q165 q166 q167 q168 q169 q170 q171 q172 q173 q174 q175 q176 q177 q178 q179 q180 q181=>rt g0 [q163,q164,(I 1),q165,q166,q167,q168,q180,q169,q170] k)
    (fun q182 q183 q184 q185 q186 q187 q188 q189 q190 q191 q192 q193 q194 q195 q196 q197 q198 q199 q200=>rt g0 [q182,q183,(I 4),q184,q185,q186,q187,q199,q188,q189] k)
    (fun q201 q202 q203 q204 q205 q206 q207 q208 q209 q210 q211 q212 q213 q214 q215 q216 q217 q218 q219=>rt g0 [q201,q202,(I 2),q203,q204,q205,q206,q218,q207,q208] k)
    (fun q220 q221 q222 q223 q224 q225 q226 q227 q228 q229 q230 q231 q232 q233 q234 q235 q236 q237 q238=>rt g0 [q220,q221,(I 3),q222,q223,q224,q225,q237,q226,q227] k)
    (fun q239 q240 q241 q242 q243 q244 q245 q246 q247 q248 q249 q250 q251 q252 q253 q254 q255 q256 q257=>rt g0 [q239,q240,(I 5),q241,q242,q243,q244,q256,q245,q246] k)
    (fun q258 q259 q260 q261 q262 q263 q264 q265 q266 q267 q268 q269 q270 q271 q272 q273 q274 q275 q276=>rt g0 [q258,q259,(I 1),q260,q261,q262,q263,q275,q264,q265] k)
    (fun q277 q278 q279 q280 q281 q282 q283 q284 q285 q286 q287 q288 q289 q290 q291 q292 q293 q294 q295=>rt g0 [q277,q278,(I 4),q279,q280,q281,q282,q294,q283,q284] k)
    (fun q296 q297 q298 q299 q300 q301 q302 q303 q304 q305 q306 q307 q308 q309 q310 q311 q312 q313 q314=>rt g0 [q296,q297,(I 2),q298,q299,q300,q301,q313,q302,q303] k)
    (fun q315 q316 q317 q318 q319 q320 q321 q322 q323 q324 q325 q326 q327 q328 q329 q330 q331 q332 q333=>rt g0 [q315,q316,(I 3),q317,q318,q319,q320,q332,q321,q322] k)
    (fun q334 q335 q336 q337 q338 q339 q340 q341 q342 q343 q344 q345 q346 q347 q348 q349 q350 q351 q352=>rt g0 [q334,q335,(I 5),q336,q337,q338,q339,q351,q340,q341] k)
    (fun q353 q354 q355 q356 q357 q358 q359 q360 q361 q362 q363 q364 q365 q366 q367 q368 q369 q370 q371=>rt g0 [q353,q354,(I 1),q355,q356,q357,q358,q370,q359,q360] k)
    (fun q372 q373 q374 q375 q376 q377 q378 q379 q380 q381 q382 q383 q384 q385 q386 q387 q388 q389 q390=>rt g0 [q372,q373,(I 4),q374,q375,q376,q377,q389,q378,q379] k)) [a3,a6,a4,(atP o4 0),(atP o1 0),(atP o0 0),(atP o0 1),(I 6),(.str ⟨#[]⟩),(I 0),(I 0),(.list 1 []),(I 0),(.list 1 []),(.list 51 []),(I 0),(.str ⟨#[]⟩),(I 0),(I 0),(.list 1 []),(I 0),(.list 23 []),(.list 1 []),(.list 1 [])])) u1) u0
 | _,_=>False
def Qki_l:List LE:=[⟨none,0,⟨[(2,.one zB),(5,.one zB),(12,.one (.ptr 2 0)),(13,.one (.ptr 5 0)),(14,.one (.ptr 7 0)),(15,.one zB),(16,.one zB)],[(7,[zB]),(5,[zB,zB,zB,zB,zB,zB,zB,.own 10,zB]),(2,[zB,zB,zB,zB,zB,zB,zB,.own 11,zB,zB])],[(11,⟨.deep,3,1,(.bool false)⟩),(10,⟨.deep,3,1,(.bool false)⟩)],12,152,[]⟩,fun K k v=>Qki_r0 v K (fun x0 x1 x2 x3 x4 x5 x6 x7 x8 x9 x10 x11 x12 x13 x14 x15 x16 x17 x18=>k .ret ⟨[(12,.one (.ptr 2 0))],[(2,[.pv x0,.pv x1,.pv (I 2),.pv x2,.pv x3,.pv x4,.pv x5,.own 13,.pv x6,.pv x7]),(2,[.pv x8,.pv x9,.pv x10,.pv x11,.pv x12,.pv x13,.pv x14,.own 11,.pv x15,.pv x16])],[(13,⟨.deep,3,1,x17⟩),(11,⟨.deep,3,1,x18⟩)],56,152,[]⟩) (fun x0 x1 x2 x3 x4 x5 x6 x7 x8 x9 x10 x11 x12 x13 x14 x15 x16 x17 x18=>k .ret ⟨[(12,.one (.ptr 2 0))],[(2,[.pv x0,.pv x1,.pv (I 3),.pv x2,.pv x3,.pv x4,.pv x5,.own 13,.pv x6,.pv x7]),(2,[.pv x8,.pv x9,.pv x10,.pv x11,.pv x12,.pv x13,.pv x14,.own 11,.pv x15,.pv x16])],[(13,⟨.deep,3,1,x17⟩),(11,⟨.deep,3,1,x18⟩)],56,152,[]⟩) (fun x0 x1 x2 x3 x4 x5 x6 x7 x8 x9 x10 x11 x12 x13 x14 x15 x16 x17 x18=>k .ret ⟨[(12,.one (.ptr 2 0))],[(2,[.pv x0,.pv x1,.pv (I 5),.pv x2,.pv x3,.pv x4,.pv x5,.own 13,.pv x6,.pv x7]),(2,[.pv x8,.pv x9,.pv x10,.pv x11,.pv x12,.pv x13,.pv x14,.own 11,.pv x15,.pv x16])],[(13,⟨.deep,3,1,x17⟩),(11,⟨.deep,3,1,x18⟩)],58,152,[]⟩) (fun x0 x1 x2 x3 x4 x5 x6 x7 x8 x9 x10 x11 x12 x13 x14 x15 x16 x17 x18=>k .ret ⟨[(12,.one (.ptr 2 0))],[(2,[.pv x0,.pv x1,.pv (I 5),.pv x2,.pv x3,.pv x4,.pv x5,.own 13,.pv x6,.pv x7]),(2,[.pv x8,.pv x9,.pv x10,.pv x11,.pv x12,.pv x13,.pv x14,.own 11,.pv x15,.pv x16])],[(13,⟨.deep,3,1,x17⟩),(11,⟨.deep,3,1,x18⟩)],59,152,[]⟩) (fun x0 x1 x2 x3 x4 x5 x6 x7 x8 x9 x10 x11 x12 x13 x14 x15 x16 x17 x18=>k .ret ⟨[(12,.one (.ptr 2 0))],[(2,[.pv x0,.pv x1,.pv (I 1),.pv x2,.pv x3,.pv x4,.pv x5,.own 13,.pv x6,.pv x7]),(2,[.pv x8,.pv x9,.pv x10,.pv x11,.pv x12,.pv x13,.pv x14,.own 11,.pv x15,.pv x16])],[(13,⟨.deep,3,1,x17⟩),(11,⟨.deep,3,1,x18⟩)],56,152,[]⟩) (fun x0 x1 x2 x3 x4 x5 x6 x7 x8 x9 x10 x11 x12 x13 x14 x15 x16 x17 x18=>k .ret ⟨[(12,.one (.ptr 2 0))],[(2,[.pv x0,.pv x1,.pv (I 4),.pv x2,.pv x3,.pv x4,.pv x5,.own 13,.pv x6,.pv x7]),(2,[.pv x8,.pv x9,.pv x10,.pv x11,.pv x12,.pv x13,.pv x14,.own 11,.pv x15,.pv x16])],[(13,⟨.deep,3,1,x17⟩),(11,⟨.deep,3,1,x18⟩)],56,152,[]⟩) (fun x0 x1 x2 x3 x4 x5 x6 x7 x8 x9 x10 x11 x12 x13 x14 x15 x16 x17 x18=>k .ret ⟨[(12,.one (.ptr 2 0))],[(2,[.pv x0,.pv x1,.pv (I 2),.pv x2,.pv x3,.pv x4,.pv x5,.own 13,.pv x6,.pv x7]),(2,[.pv x8,.pv x9,.pv x10,.pv x11,.pv x12,.pv x13,.pv x14,.own 11,.pv x15,.pv x16])],[(13,⟨.deep,3,1,x17⟩),(11,⟨.deep,3,1,x18⟩)],55,152,[]⟩) (fun x0 x1 x2 x3 x4 x5 x6 x7 x8 x9 x10 x11 x12 x13 x14 x15 x16 x17 x18=>k .ret ⟨[(12,.one (.ptr 2 0))],[(2,[.pv x0,.pv x1,.pv (I 3),.pv x2,.pv x3,.pv x4,.pv x5,.own 13,.pv x6,.pv x7]),(2,[.pv x8,.pv x9,.pv x10,.pv x11,.pv x12,.pv x13,.pv x14,.own 11,.pv x15,.pv x16])],[(13,⟨.deep,3,1,x17⟩),(11,⟨.deep,3,1,x18⟩)],55,152,[]⟩) (fun x0 x1 x2 x3 x4 x5 x6 x7 x8 x9 x10 x11 x12 x13 x14 x15 x16 x17 x18=>k .ret ⟨[(12,.one (.ptr 2 0))],[(2,[.pv x0,.pv x1,.pv (I 5),.pv x2,.pv x3,.pv x4,.pv x5,.own 13,.pv x6,.pv x7]),(2,[.pv x8,.pv x9,.pv x10,.pv x11,.pv x12,.pv x13,.pv x14,.own 11,.pv x15,.pv x16])],[(13,⟨.deep,3,1,x17⟩),(11,⟨.deep,3,1,x18⟩)],57,152,[]⟩) (fun x0 x1 x2 x3 x4 x5 x6 x7 x8 x9 x10 x11 x12 x13 x14 x15 x16 x17 x18=>k .ret ⟨[(12,.one (.ptr 2 0))],[(2,[.pv x0,.pv x1,.pv (I 1),.pv x2,.pv x3,.pv x4,.pv x5,.own 13,.pv x6,.pv x7]),(2,[.pv x8,.pv x9,.pv x10,.pv x11,.pv x12,.pv x13,.pv x14,.own 11,.pv x15,.pv x16])],[(13,⟨.deep,3,1,x17⟩),(11,⟨.deep,3,1,x18⟩)],55,152,[]⟩) (fun x0 x1 x2 x3 x4 x5 x6 x7 x8 x9 x10 x11 x12 x13 x14 x15 x16 x17 x18=>k .ret ⟨[(12,.one (.ptr 2 0))],[(2,[.pv x0,.pv x1,.pv (I 4),.pv x2,.pv x3,.pv x4,.pv x5,.own 13,.pv x6,.pv x7]),(2,[.pv x8,.pv x9,.pv x10,.pv x11,.pv x12,.pv x13,.pv x14,.own 11,.pv x15,.pv x16])],[(13,⟨.deep,3,1,x17⟩),(11,⟨.deep,3,1,x18⟩)],55,152,[]⟩) (fun x0 x1 x2 x3 x4 x5 x6 x7 x8 x9 x10 x11 x12 x13 x14 x15 x16 x17 x18=>k .ret ⟨[(12,.one (.ptr 2 0))],[(2,[.pv x0,.pv x1,.pv (I 2),.pv x2,.pv x3,.pv x4,.pv x5,.own 13,.pv x6,.pv x7]),(2,[.pv x8,.pv x9,.pv x10,.pv x11,.pv x12,.pv x13,.pv x14,.own 11,.pv x15,.pv x16])],[(13,⟨.deep,3,1,x17⟩),(11,⟨.deep,3,1,x18⟩)],57,152,[]⟩) (fun x0 x1 x2 x3 x4 x5 x6 x7 x8 x9 x10 x11 x12 x13 x14 x15 x16 x17 x18=>k .ret ⟨[(12,.one (.ptr 2 0))],[(2,[.pv x0,.pv x1,.pv (I 3),.pv x2,.pv x3,.pv x4,.pv x5,.own 13,.pv x6,.pv x7]),(2,[.pv x8,.pv x9,.pv x10,.pv x11,.pv x12,.pv x13,.pv x14,.own 11,.pv x15,.pv x16])],[(13,⟨.deep,3,1,x17⟩),(11,⟨.deep,3,1,x18⟩)],57,152,[]⟩) (fun x0 x1 x2 x3 x4 x5 x6 x7 x8 x9 x10 x11 x12 x13 x14 x15 x16 x17 x18=>k .ret ⟨[(12,.one (.ptr 2 0))],[(2,[.pv x0,.pv x1,.pv (I 5),.pv x2,.pv x3,.pv x4,.pv x5,.own 13,.pv x6,.pv x7]),(2,[.pv x8,.pv x9,.pv x10,.pv x11,.pv x12,.pv x13,.pv x14,.own 11,.pv x15,.pv x16])],[(13,⟨.deep,3,1,x17⟩),(11,⟨.deep,3,1,x18⟩)],60,152,[]⟩) (fun x0 x1 x2 x3 x4 x5 x6 x7 x8 x9 x10 x11 x12 x13 x14 x15 x16 x17 x18=>k .ret ⟨[(12,.one (.ptr 2 0))],[(2,[.pv x0,.pv x1,.pv (I 1),.pv x2,.pv x3,.pv x4,.pv x5,.own 13,.pv x6,.pv x7]),(2,[.pv x8,.pv x9,.pv x10,.pv x11,.pv x12,.pv x13,.pv x14,.own 11,.pv x15,.pv x16])],[(13,⟨.deep,3,1,x17⟩),(11,⟨.deep,3,1,x18⟩)],57,152,[]⟩) (fun x0 x1 x2 x3 x4 x5 x6 x7 x8 x9 x10 x11 x12 x13 x14 x15 x16 x17 x18=>k .ret ⟨[(12,.one (.ptr 2 0))],[(2,[.pv x0,.pv x1,.pv (I 4),.pv x2,.pv x3,.pv x4,.pv x5,.own 13,.pv x6,.pv x7]),(2,[.pv x8,.pv x9,.pv x10,.pv x11,.pv x12,.pv x13,.pv x14,.own 11,.pv x15,.pv x16])],[(13,⟨.deep,3,1,x17⟩),(11,⟨.deep,3,1,x18⟩)],57,152,[]⟩)⟩]
theorem Qki_s:xaE [⟨[150],Qbh⟩,⟨[151],Qbn⟩,⟨[152],Qcq⟩,⟨[70],Qbi⟩,⟨[153],Qkd⟩,⟨[154],Qke⟩,⟨[85],Qik⟩,⟨[155],Qkf⟩,⟨[156],Qkg⟩,⟨[157],Qkh⟩] TT.shr (kk [2,5,12,13,14,15,16,116,117,118,999999]) Qki_l f69 Qki_l:=⟨fun v K k h=>by
 apply xab h;(repeat intro _);rename_i h;exact km h
 ,trivial⟩
theorem Qki_w:EO ⟨[69],Qki⟩:=oS (ec Qbh_w (ec Qbn_w (ec Qcq_w (ec Qbi_w (ec Qkd_w (ec Qke_w (ec Qik_w (ec Qkf_w (ec Qkg_w (ec Qkh_w en)))))))))) (keep:=(kk [2,5,12,13,14,15,16,116,117,118,999999])) (l:=Qki_l) func69 Qki_s fun av k h=>by
 unfold Qki at h;split at h
 ·apply xab h;clear h;intro a0 a1 h;apply xab h;clear h;intro a2 h;exact km h
 ·exact h.elim
def Qkj:GM
 | [.agg u0,.ro (.cells u1),.ro (.cells u2)],k=>un 23 (fun a0 a1 a2 a3 a4 a5 a6 a7 a8 a9 a10 a11 a12 a13 a14 a15 a16 a17 a18 a19 a20 a21 a22=>un 1 (fun a23=>un 1 (fun a24 =>
  xac .eql a0 a23 fun r0 =>
  xad r0
   (xac .eql a1 a24 fun r1 =>
   rt [.sc] [r1] k)
   (rt [.sc] [(.bool false)] k)) u2) u1) u0
 | _,_=>False
theorem Qkj_w:EO ⟨[285],Qkj⟩:=oFz en func285 fun av k h=>by
 unfold Qkj at h;split at h
 ·apply xab h;clear h;(repeat intro _);rename_i h;apply xab h;clear h;intro a23 h;apply xab h;clear h;intro a24 h;exact km h
 ·exact h.elim
def Qkk_r0 (v:List PV) (K:List PV→Prop) (x0k:PV→Prop) (x1k:Cur 6):Prop :=
 un 6 (fun v0 v1 v2 v3 v4 v5 =>
  xac .lss v5 v4 fun r0 =>
  xad r0
   (xaj 23 v0 v5 fun c1 =>
   call Qkj [.agg [(atP c1 0),(atP c1 1),(atP c1 2),(atP c1 3),(atP c1 4),(atP c1 5),(atP c1 6),(atP c1 7),(atP c1 8),(atP c1 9),(atP c1 10),(atP c1 11),(atP c1 12),(atP c1 13),(atP c1 14),(atP c1 15),(atP c1 16),(atP c1 17),(atP c1 18),(atP c1 19),(atP c1 20),(atP c1 21),(atP c1 22)],.ro (.cells [v1]),.ro (.cells [v2])] fun o2 =>
   xad (atP o2 0)
    (x0k v5)
    (xac .add v5 (I 1) fun r3 =>
    K [v0,v1,v2,v3,v4,r3]))
   (x1k v0 v1 v2 v3 v4 v5)) v
def Qkk:GM
 | [.one a0,.fn 285 [.cells u0,.cells u1]],k=>un 1 (fun a1=>un 1 (fun a2 =>
  xaH a0 fun r0 =>
  lp (fun L w=>Qkk_r0 w L
   (fun q4=>rt [.sc] [q4] k)
   (fun q5 q6 q7 q8 q9 q10=>rt [.sc] [(I (-1))] k)) [a0,a1,a2,(I 0),r0,(I 0)]) u1) u0
 | _,_=>False
def Qkk_l:List LE:=[⟨none,0,⟨[(0,.one zB),(1,.one (.fn 285 [.ro (.cells [(.bool false)]),.ro (.cells [(.bool false)])])),(4,.one zB),(7,.one zB),(8,.one zB)],[],[],0,19,[]⟩,fun K k v=>Qkk_r0 v K (fun x0=>k .ret ⟨[(4,.one (.pv x0))],[],[],1,19,[]⟩) (fun x0 x1 x2 x3 x4 x5=>k (.exit 0) ⟨[(0,.one (.pv x0)),(1,.one (.fn 285 [.ro (.cells [x1]),.ro (.cells [x2])])),(4,.one (.pv x3)),(7,.one (.pv x4)),(8,.one (.pv x5))],[],[],0,19,[]⟩)⟩]
theorem Qkk_s:xaE [⟨[285],Qkj⟩] TT (kk [0,1,4,7,8]) Qkk_l f284 Qkk_l:=⟨fun v K k h=>by
 apply xab h;exact fun v0 v1 v2 v3 v4 v5 h=>km h
 ,trivial⟩
theorem Qkk_w:EO ⟨[284,285],Qkk⟩:=oN (ec Qkj_w en) (keep:=(kk [0,1,4,7,8])) (l:=Qkk_l) func284 Qkk_s fun av k h=>by
 unfold Qkk at h;split at h
 ·apply xab h;clear h;intro a1 h;apply xab h;clear h;intro a2 h;exact km h
 ·exact h.elim
def Qkl:GM
 | [.agg u0,.one a1,.one a2],k=>un 1 (fun a0 =>
  call Qkk [.one a0,.fn 285 [.cells [a1],.cells [a2]]] fun o0 =>
  rt [.sc] [(atP o0 0)] k) u0
 | _,_=>False
theorem Qkl_w:EO ⟨[227],Qkl⟩:=oFz (ec Qkk_w en) func227 fun av k h=>by
 unfold Qkl at h;split at h
 ·apply xab h;clear h;intro a0 h;exact km h
 ·exact h.elim
def Qkm:GM
 | [.agg u0,.one a1,.one a2],k=>un 1 (fun a0 =>
  call Qkl [.agg [a0],.one a1,.one a2] fun o0 =>
  xac .lss (atP o0 0) (I 0) fun r1 =>
  xad r1
   (rt g1 [(.list 17 []),(.bool false),(.str ⟨#[]⟩),(I 0),(I 0),(.list 1 []),(I 0),(.list 1 []),(I 0),(.str ⟨#[]⟩),(I 0),(I 0),(.list 1 []),(.str ⟨#[]⟩),(I 0),(I 0),(.list 1 []),(I 0),(.list 1 []),(I 0),(.list 1 [])] k)
   (xaj 23 a0 (atP o0 0) fun c2 =>
   call Qdt [.agg [(atP c2 2),(atP c2 3),(atP c2 4),(atP c2 5),(atP c2 6),(atP c2 7),(atP c2 8),(atP c2 9),(atP c2 10),(atP c2 11),(atP c2 12),(atP c2 13),(atP c2 14),(atP c2 15),(atP c2 16),(atP c2 17),(atP c2 18),(atP c2 19),(atP c2 20),(atP c2 21),(atP c2 22)]] fun o3 =>
   rt g1 (s21 o3) k)) u0
 | _,_=>False
theorem Qkm_w:EO ⟨[161],Qkm⟩:=oFz (ec Qkl_w (ec Qdt_w en)) func161 fun av k h=>by
 unfold Qkm at h;split at h
 ·apply xab h;clear h;intro a0 h;exact km h
 ·exact h.elim
def Qkn_r0 (v:List PV) (K:List PV→Prop) (x0k:Cur 7):Prop :=
 un 7 (fun v0 v1 v2 v3 v4 v5 v6 =>
  xac .lss v4 v3 fun r0 =>
  xad r0
   (xaj 2 v2 v4 fun c1 =>
   call Qiw [.agg [(atP c1 0),(atP c1 1)],.one v0,.one v1] fun o2 =>
   (1=1)∧(21≤16777216)∧(21=21)∧(0=0)∧(21=21)∧(xae [.nil 257 17,zB,.pv (.str ⟨#[]⟩),.pv (I 0),.pv (I 0),.nil 9 1,.pv (I 0),.nil 3 1,.pv (I 0),.pv (.str ⟨#[]⟩),.pv (I 0),.pv (I 0),.nil 9 1,.pv (.str ⟨#[]⟩),.pv (I 0),.pv (I 0),.nil 9 1,.pv (I 0),.nil 3 1,.pv (I 0),.nil 3 1] [.own 3,.pv (atP o2 1),.pv (atP o2 2),.pv (atP o2 3),.pv (atP o2 4),.own 8,.pv (atP o2 6),.own 10,.pv (atP o2 8),.pv (atP o2 9),.pv (atP o2 10),.pv (atP o2 11),.own 15,.pv (atP o2 13),.pv (atP o2 14),.pv (atP o2 15),.own 19,.pv (atP o2 17),.own 21,.pv (atP o2 19),.own 23])∧xbh 21 v6 (.list 21 [(s21 o2)]) fun r3 =>
   xac .add v4 (I 1) fun r4 =>
   K [v0,v1,v2,v3,r4,v5,r3])
   (x0k v0 v1 v2 v3 v4 v5 v6)) v
def Qkn:GM
 | [.one a0,.one a1,.one a2],k =>
  (0=0)∧(0≤16777216)∧(21=21)∧xaH a0 fun r0 =>
  xt1 (I 4) r0 fun r1 =>
  xgE r1 fun n2 =>
  xfS 2 a0 none (some n2) fun r3 =>
  xaH r3 fun r4 =>
  lp (fun L w=>Qkn_r0 w L
   (fun q5 q6 q7 q8 q9 q10 q11=>rt [.own true 150 21] [q11] k)) [a1,a2,r3,r4,(I 0),(.list 21 []),(.list 21 [])]
 | _,_=>False
def Qkn_l:List LE:=[⟨none,0,⟨[(1,.one zB),(2,.one zB),(6,.one (.own 1)),(7,.one (.own 0)),(15,.one zB),(16,.one zB),(17,.one zB)],[],[(1,⟨.deep,150,21,(.bool false)⟩),(0,⟨.deep,150,21,(.bool false)⟩)],2,30,[]⟩,fun K k v=>Qkn_r0 v K (fun x0 x1 x2 x3 x4 x5 x6=>k (.exit 0) ⟨[(1,.one (.pv x0)),(2,.one (.pv x1)),(6,.one (.own 1)),(7,.one (.own 0)),(15,.one (.pv x2)),(16,.one (.pv x3)),(17,.one (.pv x4))],[],[(1,⟨.deep,150,21,x5⟩),(0,⟨.deep,150,21,x6⟩)],2,30,[]⟩)⟩]
theorem Qkn_s:xaE [⟨[180],Qiw⟩] TT.nofl (kk [1,2,6,7,15,16,17,999999]) Qkn_l f162 Qkn_l:=⟨fun v K k h=>by
 apply xab h;exact fun v0 v1 v2 v3 v4 v5 v6 h=>km h
 ,trivial⟩
theorem Qkn_w:EO ⟨[162],Qkn⟩:=oF (ec Qiw_w en) (keep:=(kk [1,2,6,7,15,16,17,999999])) (l:=Qkn_l) func162 Qkn_s fun av k h=>by
 unfold Qkn at h;split at h
 ·exact km h
 ·exact h.elim
def Qko:GM
 | [.agg u0,.one a1,.one a2,.agg u1,.one a24],k=>un 1 (fun a0=>un 21 (fun a3 a4 a5 a6 a7 a8 a9 a10 a11 a12 a13 a14 a15 a16 a17 a18 a19 a20 a21 a22 a23 =>
  call Qdv [.agg [a0]] fun o0 =>
  call Qjk [.one a1,.one a2,.agg [a3,a4,a5,a6,a7,a8,a9,a10,a11,a12,a13,a14,a15,a16,a17,a18,a19,a20,a21,a22,a23],.one a24] fun o1 =>
  xac .neq (atP o1 0) (I 1) fun r2 =>
  xad r2
   (rt [.own true 221 23] [(atP o0 0)] k)
   (call Qdt [.agg [a3,a4,a5,a6,a7,a8,a9,a10,a11,a12,a13,a14,a15,a16,a17,a18,a19,a20,a21,a22,a23]] fun o3 =>
   call Qkl [.agg [a0],.one a1,.one a2] fun o4 =>
   xac .geq (atP o4 0) (I 0) fun r5 =>
   xad r5
    (xc6 23 (atP o0 0) (atP o4 0) fun n6 =>
    (xae [.pv (I 0),.pv (.str ⟨#[]⟩),.nil 257 17,zB,.pv (.str ⟨#[]⟩),.pv (I 0),.pv (I 0),.nil 9 1,.pv (I 0),.nil 3 1,.pv (I 0),.pv (.str ⟨#[]⟩),.pv (I 0),.pv (I 0),.nil 9 1,.pv (.str ⟨#[]⟩),.pv (I 0),.pv (I 0),.nil 9 1,.pv (I 0),.nil 3 1,.pv (I 0),.nil 3 1] [.pv a1,.pv a2,.own 6,.pv (atP o3 1),.pv (atP o3 2),.pv (atP o3 3),.pv (atP o3 4),.own 11,.pv (atP o3 6),.own 13,.pv (atP o3 8),.pv (atP o3 9),.pv (atP o3 10),.pv (atP o3 11),.own 18,.pv (atP o3 13),.pv (atP o3 14),.pv (atP o3 15),.own 22,.pv (atP o3 17),.own 24,.pv (atP o3 19),.own 26])∧xl5 (atP o0 0) n6 0 [a1,a2,(atP o3 0),(atP o3 1),(atP o3 2),(atP o3 3),(atP o3 4),(atP o3 5),(atP o3 6),(atP o3 7),(atP o3 8),(atP o3 9),(atP o3 10),(atP o3 11),(atP o3 12),(atP o3 13),(atP o3 14),(atP o3 15),(atP o3 16),(atP o3 17),(atP o3 18),(atP o3 19),(atP o3 20)] fun r7 =>
    rt [.own true 221 23] [r7] k)
    (xaH a0 fun r8 =>
    xac .lss r8 (I 16) fun r9 =>
    xad r9
     ((1=1)∧(23≤16777216)∧(23=23)∧(0=0)∧(23=23)∧(xae [.pv (I 0),.pv (.str ⟨#[]⟩),.nil 257 17,zB,.pv (.str ⟨#[]⟩),.pv (I 0),.pv (I 0),.nil 9 1,.pv (I 0),.nil 3 1,.pv (I 0),.pv (.str ⟨#[]⟩),.pv (I 0),.pv (I 0),.nil 9 1,.pv (.str ⟨#[]⟩),.pv (I 0),.pv (I 0),.nil 9 1,.pv (I 0),.nil 3 1,.pv (I 0),.nil 3 1] [.pv a1,.pv a2,.own 6,.pv (atP o3 1),.pv (atP o3 2),.pv (atP o3 3),.pv (atP o3 4),.own 11,.pv (atP o3 6),.own 13,.pv (atP o3 8),.pv (atP o3 9),.pv (atP o3 10),.pv (atP o3 11),.own 18,.pv (atP o3 13),.pv (atP o3 14),.pv (atP o3 15),.own 22,.pv (atP o3 17),.own 24,.pv (atP o3 19),.own 26])∧xbh 23 (atP o0 0) (.list 23 [[a1,a2,(atP o3 0),(atP o3 1),(atP o3 2),(atP o3 3),(atP o3 4),(atP o3 5),(atP o3 6),(atP o3 7),(atP o3 8),(atP o3 9),(atP o3 10),(atP o3 11),(atP o3 12),(atP o3 13),(atP o3 14),(atP o3 15),(atP o3 16),(atP o3 17),(atP o3 18),(atP o3 19),(atP o3 20)]]) fun r10 =>
     rt [.own true 221 23] [r10] k)
     (rt [.own true 221 23] [(atP o0 0)] k)))) u1) u0
 | _,_=>False
theorem Qko_w:EO ⟨[164],Qko⟩:=oFz (ec Qdv_w (ec Qjk_w (ec Qdt_w (ec Qkl_w en)))) func164 fun av k h=>by
 unfold Qko at h;split at h
 ·apply xab h;clear h;intro a0 h;apply xab h;clear h;(repeat intro _);rename_i h;exact km h
 ·exact h.elim
def Qkp_r0 (v:List PV) (K:List PV→Prop) (x0k:Cur 36):Prop :=
 un 36 (fun v0 v1 v2 v3 v4 v5 v6 v7 v8 v9 v10 v11 v12 v13 v14 v15 v16 v17 v18 v19 v20 v21 v22 v23 v24 v25 v26 v27 v28 v29 v30 v31 v32 v33 v34 v35 =>
  let F0:=fun (o5:List PV) (r10:PV) (o9:List PV) (r12:PV)=>unP .not (atP o5 7) fun r13 =>
   xad r13
   (K [(.list 1 []),(I 0),(I 3),v3,v4,v5,v6,v7,v8,v9,v10,v11,v12,v13,v14,v15,v16,v17,v18,v19,v20,v21,v22,v23,v24,v25,v26,v27,v28,v29,v30,r10,v32,(atP o5 0),(atP o5 1),(atP o9 0)])
   (unP .not (atP o5 2) fun r14 =>
   xad r14
   (K [(.list 1 []),(I 0),(I 2),v3,v4,v5,v6,v7,v8,v9,v10,v11,v12,v13,v14,v15,v16,v17,v18,v19,v20,v21,v22,v23,v24,v25,v26,v27,v28,v29,v30,r10,v32,(atP o5 0),(atP o5 1),(atP o9 0)])
   (xac .eql (atP o5 4) (I 3) fun r15 =>
   xad r15
   (call Qdn [.one (atP o5 6)] fun o16 =>
   (xa4 r12)∧xbh 1 (atP o16 0) r12 fun r17 =>
   xac .geq v6 (I 3) fun r18 =>
   xad r18
   (K [(.list 1 []),(I 0),(I 5),v3,v4,v5,v6,v7,v8,v9,v10,v11,v12,v13,v14,v15,v16,v17,v18,v19,v20,v21,v22,v23,v24,v25,v26,v27,v28,v29,v30,r10,v32,(atP o5 0),(atP o5 1),(atP o9 0)])
   (call Qfp [.one r17] fun o19 =>
   unP .not (atP o19 0) fun r20 =>
   xad r20
   (K [(.list 1 []),(I 0),(I 5),v3,v4,v5,v6,v7,v8,v9,v10,v11,v12,v13,v14,v15,v16,v17,v18,v19,v20,v21,v22,v23,v24,v25,v26,v27,v28,v29,v30,r10,v32,(atP o5 0),(atP o5 1),(atP o9 0)])
   (xac .add v6 (I 1) fun r21 =>
   K [r17,(atP o5 5),v2,v3,v4,v5,r21,v7,v8,v9,v10,v11,v12,v13,v14,v15,v16,v17,v18,v19,v20,v21,v22,v23,v24,v25,v26,v27,v28,v29,v30,r10,v32,(atP o5 0),(atP o5 1),(atP o9 0)])))
   (xaH r12 fun r22 =>
   xac .eql r22 (I 0) fun r23 =>
   xad r23
   (call Qdo [.agg [(atP o5 3),(atP o5 4),(atP o5 5),(atP o5 6)]] fun o24 =>
   K [(.list 1 []),(I 0),(I 1),(atP o24 0),(atP o24 1),(atP o24 2),v6,v7,v8,v9,v10,v11,v12,v13,v14,v15,v16,v17,v18,v19,v20,v21,v22,v23,v24,v25,v26,v27,v28,v29,v30,r10,(atP o24 3),(atP o5 0),(atP o5 1),(atP o9 0)])
   (xac .eql (atP o5 4) (I 2) fun r25 =>
   xad r25
   (K [r12,(atP o5 5),v2,v3,v4,v5,v6,v7,v8,v9,v10,v11,v12,v13,v14,v15,v16,v17,v18,v19,v20,v21,v22,v23,v24,v25,v26,v27,v28,v29,v30,r10,v32,(atP o5 0),(atP o5 1),(atP o9 0)])
   (K [(.list 1 []),(I 0),(I 4),v3,v4,v5,v6,v7,v8,v9,v10,v11,v12,v13,v14,v15,v16,v17,v18,v19,v20,v21,v22,v23,v24,v25,v26,v27,v28,v29,v30,r10,v32,(atP o5 0),(atP o5 1),(atP o9 0)])))))
  let F1:=fun (o5:List PV) (r41:PV) (r43:PV)=>unP .not (atP o5 7) fun r44 =>
   xad r44
   (K [(.list 1 []),(I 0),(I 3),v3,v4,v5,v6,v7,v8,v9,v10,v11,v12,v13,v14,v15,v16,v17,v18,v19,v20,v21,v22,v23,v24,v25,v26,v27,v28,v29,v30,r41,v32,(atP o5 0),(atP o5 1),v35])
   (unP .not (atP o5 2) fun r45 =>
   xad r45
   (K [(.list 1 []),(I 0),(I 2),v3,v4,v5,v6,v7,v8,v9,v10,v11,v12,v13,v14,v15,v16,v17,v18,v19,v20,v21,v22,v23,v24,v25,v26,v27,v28,v29,v30,r41,v32,(atP o5 0),(atP o5 1),v35])
   (xac .eql (atP o5 4) (I 3) fun r46 =>
   xad r46
   (call Qdn [.one (atP o5 6)] fun o47 =>
   (xa4 r43)∧xbh 1 (atP o47 0) r43 fun r48 =>
   xac .geq v6 (I 3) fun r49 =>
   xad r49
   (K [(.list 1 []),(I 0),(I 5),v3,v4,v5,v6,v7,v8,v9,v10,v11,v12,v13,v14,v15,v16,v17,v18,v19,v20,v21,v22,v23,v24,v25,v26,v27,v28,v29,v30,r41,v32,(atP o5 0),(atP o5 1),v35])
   (call Qfp [.one r48] fun o50 =>
   unP .not (atP o50 0) fun r51 =>
   xad r51
   (K [(.list 1 []),(I 0),(I 5),v3,v4,v5,v6,v7,v8,v9,v10,v11,v12,v13,v14,v15,v16,v17,v18,v19,v20,v21,v22,v23,v24,v25,v26,v27,v28,v29,v30,r41,v32,(atP o5 0),(atP o5 1),v35])
   (xac .add v6 (I 1) fun r52 =>
   K [r48,(atP o5 5),v2,v3,v4,v5,r52,v7,v8,v9,v10,v11,v12,v13,v14,v15,v16,v17,v18,v19,v20,v21,v22,v23,v24,v25,v26,v27,v28,v29,v30,r41,v32,(atP o5 0),(atP o5 1),v35])))
   (xaH r43 fun r53 =>
   xac .eql r53 (I 0) fun r54 =>
   xad r54
   (call Qdo [.agg [(atP o5 3),(atP o5 4),(atP o5 5),(atP o5 6)]] fun o55 =>
   K [(.list 1 []),(I 0),(I 1),(atP o55 0),(atP o55 1),(atP o55 2),v6,v7,v8,v9,v10,v11,v12,v13,v14,v15,v16,v17,v18,v19,v20,v21,v22,v23,v24,v25,v26,v27,v28,v29,v30,r41,(atP o55 3),(atP o5 0),(atP o5 1),v35])
   (xac .eql (atP o5 4) (I 2) fun r56 =>
   xad r56
   (K [r43,(atP o5 5),v2,v3,v4,v5,v6,v7,v8,v9,v10,v11,v12,v13,v14,v15,v16,v17,v18,v19,v20,v21,v22,v23,v24,v25,v26,v27,v28,v29,v30,r41,v32,(atP o5 0),(atP o5 1),v35])
   (K [(.list 1 []),(I 0),(I 4),v3,v4,v5,v6,v7,v8,v9,v10,v11,v12,v13,v14,v15,v16,v17,v18,v19,v20,v21,v22,v23,v24,v25,v26,v27,v28,v29,v30,r41,v32,(atP o5 0),(atP o5 1),v35])))))
  let F5:=fun (o144:List PV) (o148:List PV)=>(1=1)∧(1≤16777216)∧(1=1)∧(0=0)∧(1=1)∧(xae [.pv (I 0)] [.pv v1])∧xbh 1 v31 (.list 1 [[v1]]) fun r149 =>
   xgE (I 1) fun n150 =>
   xfS 1 v0 (some n150) none fun r151 =>
   (((F0 o144 r149 o148 r151)∧True)∧True)∧((xgE (I 1) fun n165 =>
   xfS 1 v0 (some n165) none fun r166 =>
   (F0 o144 r149 o148 r166)∧True)∧True)∧True
  let F4:=fun (o144:List PV)=>((1=1)∧(1≤16777216)∧(1=1)∧(0=0)∧(1=1)∧(xae [.pv (I 0)] [.pv v1])∧xbh 1 v31 (.list 1 [[v1]]) fun r180 =>
   xgE (I 1) fun n181 =>
   xfS 1 v0 (some n181) none fun r182 =>
   (((F1 o144 r180 r182)∧True)∧True)∧((xgE (I 1) fun n196 =>
   xfS 1 v0 (some n196) none fun r197 =>
   (F1 o144 r180 r197)∧True)∧True)∧True)∧True
  let F2:=fun (o141:List PV) (o142:List PV) (c1:List PV)=>xbh 21 (.list 21 [[(atP o141 0),(atP o141 1),(atP o141 2),(atP o141 3),(atP o141 4),(atP o141 5),(atP o141 6),(atP o141 7),(atP o141 8),(atP o141 9),(atP o141 10),(atP o141 11),(atP o141 12),(atP o141 13),(atP o141 14),(atP o141 15),(atP o141 16),(atP o141 17),(atP o141 18),(atP o141 19),(atP o141 20)]]) (atP o142 0) fun r143 =>
   (call Qkb [.agg [v33,v34],.one r143,.one v1,.one (atP c1 0),.one v17] fun o144 =>
   xac .geq (atP o144 9) (I 0) fun r145 =>
   xad r145
   (xc6 21 r143 (atP o144 9) fun n146 =>
   xqA 21 r143 n146 fun c147 =>
   call Qko [.agg [v35],.one v1,.one (atP c1 0),.agg [(atP c147 0),(atP c147 1),(atP c147 2),(atP c147 3),(atP c147 4),(atP c147 5),(atP c147 6),(atP c147 7),(atP c147 8),(atP c147 9),(atP c147 10),(atP c147 11),(atP c147 12),(atP c147 13),(atP c147 14),(atP c147 15),(atP c147 16),(atP c147 17),(atP c147 18),(atP c147 19),(atP c147 20)],.one v17] fun o148 =>
   ((F5 o144 o148)∧True)∧True)
   ((F4 o144)∧True))∧True
  let F3:=fun (o2:List PV) (o3:List PV) (c1:List PV)=>xbh 21 (.list 21 [[(atP o2 0),(atP o2 1),(atP o2 2),(atP o2 3),(atP o2 4),(atP o2 5),(atP o2 6),(atP o2 7),(atP o2 8),(atP o2 9),(atP o2 10),(atP o2 11),(atP o2 12),(atP o2 13),(atP o2 14),(atP o2 15),(atP o2 16),(atP o2 17),(atP o2 18),(atP o2 19),(atP o2 20)]]) (atP o3 0) fun r4 =>
   (call Qkb [.agg [v33,v34],.one r4,.one v1,.one (atP c1 0),.one v17] fun o5 =>
   xac .geq (atP o5 9) (I 0) fun r6 =>
   xad r6
   (xc6 21 r4 (atP o5 9) fun n7 =>
   xqA 21 r4 n7 fun c8 =>
   call Qko [.agg [v35],.one v1,.one (atP c1 0),.agg [(atP c8 0),(atP c8 1),(atP c8 2),(atP c8 3),(atP c8 4),(atP c8 5),(atP c8 6),(atP c8 7),(atP c8 8),(atP c8 9),(atP c8 10),(atP c8 11),(atP c8 12),(atP c8 13),(atP c8 14),(atP c8 15),(atP c8 16),(atP c8 17),(atP c8 18),(atP c8 19),(atP c8 20)],.one v17] fun o9 =>
   (F5 o5 o9)∧True)
   (F4 o5))∧True
  xac .eql v2 (I 0) fun r0 =>
  xad r0
   (xaj 1 v0 (I 0) fun c1 =>
   ((call Qkm [.agg [v35],.one v1,.one (atP c1 0)] fun o2 =>
   call Qkn [.one v18,.one v1,.one (atP c1 0)] fun o3 =>
   (((1=1)∧(21≤16777216)∧(21=21)∧(0=0)∧(21=21)∧(xae [.nil 257 17,zB,.pv (.str ⟨#[]⟩),.pv (I 0),.pv (I 0),.nil 9 1,.pv (I 0),.nil 3 1,.pv (I 0),.pv (.str ⟨#[]⟩),.pv (I 0),.pv (I 0),.nil 9 1,.pv (.str ⟨#[]⟩),.pv (I 0),.pv (I 0),.nil 9 1,.pv (I 0),.nil 3 1,.pv (I 0),.nil 3 1] [.own 27,.pv (atP o2 1),.pv (atP o2 2),.pv (atP o2 3),.pv (atP o2 4),.own 32,.pv (atP o2 6),.own 34,.pv (atP o2 8),.pv (atP o2 9),.pv (atP o2 10),.pv (atP o2 11),.own 39,.pv (atP o2 13),.pv (atP o2 14),.pv (atP o2 15),.own 43,.pv (atP o2 17),.own 45,.pv (atP o2 19),.own 47])∧(F3 o2 o3 c1)∧True)∧True)∧((1=1)∧(21≤16777216)∧(21=21)∧(0=0)∧(21=21)∧(xae [.nil 257 17,zB,.pv (.str ⟨#[]⟩),.pv (I 0),.pv (I 0),.nil 9 1,.pv (I 0),.nil 3 1,.pv (I 0),.pv (.str ⟨#[]⟩),.pv (I 0),.pv (I 0),.nil 9 1,.pv (.str ⟨#[]⟩),.pv (I 0),.pv (I 0),.nil 9 1,.pv (I 0),.nil 3 1,.pv (I 0),.nil 3 1] [.own 27,.pv (atP o2 1),.pv (atP o2 2),.pv (atP o2 3),.pv (atP o2 4),.own 32,.pv (atP o2 6),.own 34,.pv (atP o2 8),.pv (atP o2 9),.pv (atP o2 10),.pv (atP o2 11),.own 39,.pv (atP o2 13),.pv (atP o2 14),.pv (atP o2 15),.own 43,.pv (atP o2 17),.own 45,.pv (atP o2 19),.own 47])∧(call Qkn [.one v18,.one v1,.one (atP c1 0)] fun o72 =>
   (F3 o2 o72 c1)∧True)∧True)∧True)∧True)∧(call Qkm [.agg [v35],.one v1,.one (atP c1 0)] fun o141 =>
   call Qkn [.one v18,.one v1,.one (atP c1 0)] fun o142 =>
   (((1=1)∧(21≤16777216)∧(21=21)∧(0=0)∧(21=21)∧(xae [.nil 257 17,zB,.pv (.str ⟨#[]⟩),.pv (I 0),.pv (I 0),.nil 9 1,.pv (I 0),.nil 3 1,.pv (I 0),.pv (.str ⟨#[]⟩),.pv (I 0),.pv (I 0),.nil 9 1,.pv (.str ⟨#[]⟩),.pv (I 0),.pv (I 0),.nil 9 1,.pv (I 0),.nil 3 1,.pv (I 0),.nil 3 1] [.own 27,.pv (atP o141 1),.pv (atP o141 2),.pv (atP o141 3),.pv (atP o141 4),.own 32,.pv (atP o141 6),.own 34,.pv (atP o141 8),.pv (atP o141 9),.pv (atP o141 10),.pv (atP o141 11),.own 39,.pv (atP o141 13),.pv (atP o141 14),.pv (atP o141 15),.own 43,.pv (atP o141 17),.own 45,.pv (atP o141 19),.own 47])∧(F2 o141 o142 c1)∧True)∧True)∧((1=1)∧(21≤16777216)∧(21=21)∧(0=0)∧(21=21)∧(xae [.nil 257 17,zB,.pv (.str ⟨#[]⟩),.pv (I 0),.pv (I 0),.nil 9 1,.pv (I 0),.nil 3 1,.pv (I 0),.pv (.str ⟨#[]⟩),.pv (I 0),.pv (I 0),.nil 9 1,.pv (.str ⟨#[]⟩),.pv (I 0),.pv (I 0),.nil 9 1,.pv (I 0),.nil 3 1,.pv (I 0),.nil 3 1] [.own 27,.pv (atP o141 1),.pv (atP o141 2),.pv (atP o141 3),.pv (atP o141 4),.own 32,.pv (atP o141 6),.own 34,.pv (atP o141 8),.pv (atP o141 9),.pv (atP o141 10),.pv (atP o141 11),.own 39,.pv (atP o141 13),.pv (atP o141 14),.pv (atP o141 15),.own 43,.pv (atP o141 17),.own 45,.pv (atP o141 19),.own 47])∧(call Qkn [.one v18,.one v1,.one (atP c1 0)] fun o211 =>
   (F2 o141 o211 c1)∧True)∧True)∧True)∧True)
   (x0k v0 v1 v2 v3 v4 v5 v6 v7 v8 v9 v10 v11 v12 v13 v14 v15 v16 v17 v18 v19 v20 v21 v22 v23 v24 v25 v26 v27 v28 v29 v30 v31 v32 v33 v34 v35)) v
def Qkp:GM
 | [.agg u0,.agg u1,.one a3,.one a4,.one a5,.one a6],k=>un 2 (fun a0 a1=>un 1 (fun a2 =>
  call Qdv [.agg [a2]] fun o0 =>
  call Qdq [.agg [a0,a1]] fun o1 =>
  call Qfp [.one a5] fun o2 =>
  unP .not (atP o2 0) fun r3 =>
  xad r3
   (rt g27 [(atP o1 0),(atP o1 1),(I 6),(.str ⟨#[]⟩),(I 0),(I 0),(.list 1 []),(.list 1 []),(I 0),(atP o0 0)] k)
   (lp (fun L w=>Qkp_r0 w L
    (fun q280 q281 q282 q283 q284 q285 q286 q287 q288 q289 q290 q291 q292 q293 q294 q295 q296 q297 q298 q299 q300 q301 q302 q303 q304 q305 q306 q307 q308 q309 q310 q311 q312 q313 q314 q315=>rt g27 [q313,q314,q282,q283,q284,q285,q312,q311,q286,q315] k)) [a5,a4,(I 0),(.str ⟨#[]⟩),(I 0),(I 0),(I 0),(I 0),(.str ⟨#[]⟩),(I 0),(I 0),(I 0),(I 0),(.str ⟨#[]⟩),(I 0),(I 0),(I 0),a6,a3,a2,a0,a1,(.list 23 []),(.list 1 []),(.list 1 []),(.list 51 []),(.list 1 []),(.list 1 []),(.list 1 []),(.list 51 []),(.list 1 []),(.list 1 []),(.list 1 []),(atP o1 0),(atP o1 1),(atP o0 0)])) u1) u0
 | _,_=>False
def Qkp_l:List LE:=[⟨some (2,159),0,⟨[(2,.one zB),(3,.one (.fn 160 [.box 6,.box 2,.box 3])),(8,.one (.ptr 8 0)),(9,.one (.ptr 11 0)),(10,.one zB)],[(11,[.own 9,.own 10,zB,zB,zB,zB,.own 13,.own 14,zB]),(8,[.own 15,.own 16,zB,zB,zB,zB,.own 17,.own 18,zB]),(6,[.own 5]),(4,[.own 19,.own 20,zB,zB,zB,zB,.own 21,.own 22,zB,.own 23]),(3,[zB]),(2,[zB]),(1,[zB]),(0,[zB,zB])],[(23,⟨.deep,221,23,(.bool false)⟩),(22,⟨.deep,3,1,(.bool false)⟩),(21,⟨.deep,9,1,(.bool false)⟩),(20,⟨.deep,259,51,(.bool false)⟩),(19,⟨.deep,90,1,(.bool false)⟩),(18,⟨.deep,3,1,(.bool false)⟩),(17,⟨.deep,9,1,(.bool false)⟩),(16,⟨.deep,259,51,(.bool false)⟩),(15,⟨.deep,90,1,(.bool false)⟩),(14,⟨.deep,3,1,(.bool false)⟩),(13,⟨.deep,9,1,(.bool false)⟩),(9,⟨.deep,90,1,(.bool false)⟩),(10,⟨.deep,259,51,(.bool false)⟩),(5,⟨.deep,221,23,(.bool false)⟩)],24,48,[0,1,2,3,4,6]⟩,fun K k v=>Qkp_r0 v K (fun x0 x1 x2 x3 x4 x5 x6 x7 x8 x9 x10 x11 x12 x13 x14 x15 x16 x17 x18 x19 x20 x21 x22 x23 x24 x25 x26 x27 x28 x29 x30 x31 x32 x33 x34 x35=>k (.exit 0) ⟨[(2,.one (.pv x0)),(3,.one (.fn 160 [.box 6,.box 2,.box 3])),(8,.one (.ptr 8 0)),(9,.one (.ptr 11 0)),(10,.one (.pv x1))],[(11,[.own 9,.own 10,.pv x2,.pv x3,.pv x4,.pv x5,.own 13,.own 14,.pv x6]),(8,[.own 15,.own 16,.pv x7,.pv x8,.pv x9,.pv x10,.own 17,.own 18,.pv x11]),(6,[.own 5]),(4,[.own 19,.own 20,.pv x12,.pv x13,.pv x14,.pv x15,.own 21,.own 22,.pv x16,.own 23]),(3,[.pv x17]),(2,[.pv x18]),(1,[.pv x19]),(0,[.pv x20,.pv x21])],[(23,⟨.deep,221,23,x22⟩),(22,⟨.deep,3,1,x23⟩),(21,⟨.deep,9,1,x24⟩),(20,⟨.deep,259,51,x25⟩),(19,⟨.deep,90,1,x26⟩),(18,⟨.deep,3,1,x27⟩),(17,⟨.deep,9,1,x28⟩),(16,⟨.deep,259,51,x29⟩),(15,⟨.deep,90,1,x30⟩),(14,⟨.deep,3,1,x31⟩),(13,⟨.deep,9,1,x32⟩),(9,⟨.deep,90,1,x33⟩),(10,⟨.deep,259,51,x34⟩),(5,⟨.deep,221,23,x35⟩)],24,48,[0,1,2,3,4,6]⟩)⟩]
theorem Qkp_s:xaE [⟨[158],Qdv⟩,⟨[198],Qdq⟩,⟨[225],Qfp⟩,⟨[161],Qkm⟩,⟨[162],Qkn⟩,⟨[163],Qkb⟩,⟨[164],Qko⟩,⟨[73],Qdn⟩,⟨[229],Qdo⟩] TT.nofl [] Qkp_l f72 Qkp_l:=⟨fun v K k h=>by
 apply xab h;(repeat intro _);rename_i h;exact km h
 ,trivial⟩
theorem Qkp_w:EO ⟨[72],Qkp⟩:=oF (ec Qdv_w (ec Qdq_w (ec Qfp_w (ec Qkm_w (ec Qkn_w (ec Qkb_w (ec Qko_w (ec Qdn_w (ec Qdo_w en))))))))) (keep:=[]) (l:=Qkp_l) func72 Qkp_s fun av k h=>by
 unfold Qkp at h;split at h
 ·apply xab h;clear h;intro a0 a1 h;apply xab h;clear h;intro a2 h;exact km h
 ·exact h.elim
def Qkq:GM
 | [.agg u0,.agg u1],k=>un 3 (fun a0 a1 a2=>un 3 (fun a3 a4 a5 =>
  xac .neq a0 a3 fun r0 =>
  xad r0
   (rt [.sc] [(.bool false)] k)
   (call Qgq [.one a1,.one a4] fun o1 =>
   unP .not (atP o1 0) fun r2 =>
   xad r2
    (rt [.sc] [(.bool false)] k)
    (call Qhb [.one a2,.one a5] fun o3 =>
    unP .not (atP o3 0) fun r4 =>
    xad r4
     (rt [.sc] [(.bool false)] k)
     (rt [.sc] [(.bool true)] k)))) u1) u0
 | _,_=>False
theorem Qkq_w:EO ⟨[14],Qkq⟩:=oFz (ec Qgq_w (ec Qhb_w en)) func14 fun av k h=>by
 unfold Qkq at h;split at h
 ·apply xab h;clear h;intro a0 a1 a2 h;apply xab h;clear h;intro a3 a4 a5 h;exact km h
 ·exact h.elim
def Qkr:GM
 | [.one a0],k =>
  xac .eql a0 (I 1) fun r0 =>
  xad r0
   (rt [.sc] [(.bool true)] k)
   (xac .eql a0 (I 2) fun r1 =>
   rt [.sc] [r1] k)
 | _,_=>False
theorem Qkr_w:EO ⟨[66],Qkr⟩:=oFz en func66 fun av k h=>by
 unfold Qkr at h;split at h
 ·exact km h
 ·exact h.elim
def Qks:GM
 | [.one a0,.one a1,.one a2,.one a3],k =>
  call Qki [.agg [(.list 1 []),(.list 51 [])],.agg [(.list 23 [])],.one a0,.one a1,.one a2,.one a3] fun o0 =>
  xac .neq (atP o0 2) (I 1) fun r1 =>
  xad r1
   (xac .neq (atP o0 2) (I 2) fun r2 =>
   xad r2
    (rt g14 [(I 0),(.list 1 []),(.list 23 []),(.bool false)] k)
    (call Qbi [.one a2] fun o3 =>
    rt g14 [a1,(atP o3 0),(atP o0 9),(.bool true)] k))
   (call Qbi [.one a2] fun o4 =>
   rt g14 [a1,(atP o4 0),(atP o0 9),(.bool true)] k)
 | _,_=>False
theorem Qks_w:EO ⟨[17],Qks⟩:=oNz (ec Qki_w (ec Qbi_w en)) func17 fun av k h=>by
 unfold Qks at h;split at h
 ·exact km h
 ·exact h.elim
def Qkt:GM
 | [.one a0,.one a1,.one a2,.one a3],k =>
  call Qkp [.agg [(.list 1 []),(.list 51 [])],.agg [(.list 23 [])],.one a0,.one a1,.one a2,.one a3] fun o0 =>
  call Qkr [.one (atP o0 2)] fun o1 =>
  unP .not (atP o1 0) fun r2 =>
  xad r2
   (rt g28 [(I 0),(.list 1 []),(.list 23 []),(.bool false)] k)
   (call Qdn [.one a2] fun o3 =>
   rt g28 [a1,(atP o3 0),(atP o0 9),(.bool true)] k)
 | _,_=>False
theorem Qkt_w:EO ⟨[20],Qkt⟩:=oFz (ec Qkp_w (ec Qkr_w (ec Qdn_w en))) func20 fun av k h=>by
 unfold Qkt at h;split at h
 ·exact km h
 ·exact h.elim
def Qku:GM
 | [.agg u0,.one a3],k=>un 3 (fun a0 a1 a2 =>
  call Qhf [.one a1,.one a3] fun o0 =>
  xac .lss (atP o0 0) (I 0) fun r1 =>
  xad r1
   (rt [.sc] [(I (-1))] k)
   (call Qhg [.one a2,.one (atP o0 0)] fun o2 =>
   xac .lss (atP o2 0) (I 0) fun r3 =>
   xad r3
    (rt [.sc] [(I (-1))] k)
    (rt [.sc] [(atP o2 0)] k))) u0
 | _,_=>False
theorem Qku_w:EO ⟨[26],Qku⟩:=oFz (ec Qhf_w (ec Qhg_w en)) func26 fun av k h=>by
 unfold Qku at h;split at h
 ·apply xab h;clear h;intro a0 a1 a2 h;exact km h
 ·exact h.elim
def laws_FnExactBundleOf:GM
 | [.one a0,.one a1,.one a2,.one a3],k =>
  call Qan [.one a0,.one (I 1048576)] fun o0 =>
  xac .lss (atP o0 0) (I 0) fun r1 =>
  xad r1
   (rt [.sc] [(.bool true)] k)
   (call Qah [.one a2,.one (atP o0 0)] fun o2 =>
   xac .lss (atP o2 0) (I 0) fun r3 =>
   xad r3
    (rt [.sc] [(.bool true)] k)
    (call Qbb [.one a0] fun o4 =>
    call Qav [.one a2] fun o5 =>
    call Qks [.one (atP o4 0),.one a1,.one (atP o5 0),.one a3] fun o6 =>
    call Qbb [.one a0] fun o7 =>
    call Qav [.one a2] fun o8 =>
    call Qkt [.one (atP o7 0),.one a1,.one (atP o8 0),.one a3] fun o9 =>
    call Qkq [.agg [(atP o9 0),(atP o9 1),(atP o9 2)],.agg [(atP o6 0),(atP o6 1),(atP o6 2)]] fun o10 =>
    unP .not (atP o10 0) fun r11 =>
    xad r11
     (rt [.sc] [(.bool false)] k)
     (xeA .neq (atP o9 3) (atP o6 3) fun r12 =>
     xad r12
      (rt [.sc] [(.bool false)] k)
      (call Qbb [.one a0] fun o13 =>
      call Qgw [.one (atP o7 0),.one (atP o13 0)] fun o14 =>
      unP .not (atP o14 0) fun r15 =>
      xad r15
       (rt [.sc] [(.bool false)] k)
       (call Qav [.one a2] fun o16 =>
       call Qgq [.one (atP o8 0),.one (atP o16 0)] fun o17 =>
       unP .not (atP o17 0) fun r18 =>
       xad r18
        (rt [.sc] [(.bool false)] k)
        ((xae [.nil 136 2] [.own 9])∧call laws_markServerS [.one (atP [(atP o7 0)] 0),.one (I 1)] fun o19 =>
        (xae [.nil 9 1] [.own 10])∧call laws_markStringS [.one (atP [(atP o8 0)] 0),.one (atP o19 1)] fun o20 =>
        xac .lss (atP o20 1) (I 0) fun r21 =>
        xad r21
         (rt [.sc] [(.bool false)] k)
         (call Qkq [.agg [(atP o9 0),(atP o9 1),(atP o9 2)],.agg [(atP o6 0),(atP o6 1),(atP o6 2)]] fun o22 =>
         unP .not (atP o22 0) fun r23 =>
         xad r23
          (rt [.sc] [(.bool false)] k)
          (xeA .neq (atP o9 3) (atP o6 3) fun r24 =>
          xad r24
           (rt [.sc] [(.bool false)] k)
           ((xae [.pv (I 0),.nil 9 1,.nil 221 23] [.pv (atP o9 0),.own 12,.own 13])∧call laws_markBundle [.agg [(atP o9 0),(atP o9 1),(atP o9 2)],.one (I 1)] fun o25 =>
           call Qku [.agg [(atP o9 0),(atP o25 1),(atP o25 2)],.one (I 1)] fun o26 =>
           xac .lss (atP o26 0) (I 0) fun r27 =>
           xad r27
            (rt [.sc] [(.bool false)] k)
            (xac .neq (atP o26 0) (atP o25 3) fun r28 =>
            xad r28
             (rt [.sc] [(.bool false)] k)
             (call Qbb [.one a0] fun o29 =>
             call Qav [.one a2] fun o30 =>
             call Qkt [.one (atP o29 0),.one a1,.one (atP o30 0),.one a3] fun o31 =>
             call Qkq [.agg [(atP o31 0),(atP o31 1),(atP o31 2)],.agg [(atP o6 0),(atP o6 1),(atP o6 2)]] fun o32 =>
             unP .not (atP o32 0) fun r33 =>
             xad r33
              (rt [.sc] [(.bool false)] k)
              (xeA .neq (atP o31 3) (atP o6 3) fun r34 =>
              xad r34
               (rt [.sc] [(.bool false)] k)
               (call Qku [.agg [(atP o9 0),(atP o25 1),(atP o25 2)],.one (I 1)] fun o35 =>
               xac .lss (atP o35 0) (I 0) fun r36 =>
               xad r36
                (rt [.sc] [(.bool false)] k)
                (xac .neq (atP o35 0) (atP o25 3) fun r37 =>
                xad r37
                 (rt [.sc] [(.bool false)] k)
                 (rt [.sc] [(.bool true)] k)))))))))))))))
 | _,_=>False
abbrev laws_FnExactBundleOf_e:Ent:=⟨[4],laws_FnExactBundleOf⟩
theorem laws_FnExactBundleOf_w:EO laws_FnExactBundleOf_e:=oFz (ec Qan_w (ec Qah_w (ec Qbb_w (ec Qav_w (ec Qks_w (ec Qkt_w (ec Qkq_w (ec Qgw_w (ec Qgq_w (ec laws_markServerS_w (ec laws_markStringS_w (ec laws_markBundle_w (ec Qku_w en))))))))))))) func4 fun av k h=>by
 unfold laws_FnExactBundleOf at h;split at h
 ·exact km h
 ·exact h.elim
end Go.Ev
