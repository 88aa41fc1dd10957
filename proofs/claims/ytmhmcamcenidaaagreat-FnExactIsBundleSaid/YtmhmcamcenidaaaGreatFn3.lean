/- The tables of this load, and for each function the meaning that the evaluator gives it, with its proof, part 3. -/
import Derived.Test.YtmhmcamcenidaaaGreatFn2
set_option maxRecDepth 100000
set_option linter.unusedVariables false
namespace Go.Ev
open Go.Proofs
def Qhd:GM
 | [.agg u0,.one a2,.one a3],k=>un 2 (fun a0 a1 =>
  call Qgw [.agg [a0,a1],.one a2] fun o0 =>
  binP .lss (atP o0 0) (I 0) fun r1 =>
  iteP r1
   (rt [.pv,.sc,.sc,.sc,.sc,.pv,.sc,.pv,.sc,.sc,.sc,.sc,.pv,.sc,.sc,.sc,.pv,.sc,.pv,.sc,.pv] [(.list 17 []),(.bool false),(.str ⟨#[]⟩),(I 0),(I 0),(.list 1 []),(I 0),(.list 1 []),(I 0),(.str ⟨#[]⟩),(I 0),(I 0),(.list 1 []),(.str ⟨#[]⟩),(I 0),(I 0),(.list 1 []),(I 0),(.list 1 []),(I 0),(.list 1 [])] k)
   (binP .eql a1 (I 4) fun r2 =>
   iteP r2
    (rt [.pv,.sc,.sc,.sc,.sc,.pv,.sc,.pv,.sc,.sc,.sc,.sc,.pv,.sc,.sc,.sc,.pv,.sc,.pv,.sc,.pv] [(.list 17 []),(.bool false),(.str ⟨#[]⟩),(I 0),(I 0),(.list 1 []),(I 0),(.list 1 []),(I 0),(.str ⟨#[]⟩),(I 0),(I 0),(.list 1 []),(.str ⟨#[]⟩),(I 0),(I 0),(.list 1 []),(I 0),(.list 1 []),(I 0),(.list 1 [])] k)
    (elemP 2 a0 (atP o0 0) fun c3 =>
    call Qhc [.agg [(atP c3 0),(atP c3 1)],.one a3] fun o4 =>
    binP .eql a1 (I 1) fun r5 =>
    iteP r5
     (binP .add (atP o4 4) (I 1) fun r6 =>
     rt [.pv,.sc,.sc,.sc,.sc,.pv,.sc,.pv,.sc,.sc,.sc,.sc,.pv,.sc,.sc,.sc,.pv,.sc,.pv,.sc,.pv] [(atP o4 0),(atP o4 1),(atP o4 2),(atP o4 3),r6,(atP o4 5),(atP o4 6),(atP o4 7),(atP o4 8),(atP o4 9),(atP o4 10),(atP o4 11),(atP o4 12),(atP o4 13),(atP o4 14),(atP o4 15),(atP o4 16),(atP o4 17),(atP o4 18),(atP o4 19),(atP o4 20)] k)
     (binP .eql a1 (I 2) fun r7 =>
     iteP r7
      (lenP (atP o4 0) fun r8 =>
      binP .gtr r8 (I 0) fun r9 =>
      iteP r9
       (lenP (atP o4 0) fun r10 =>
       binP .sub r10 (I 1) fun r11 =>
       natP r11 fun n12 =>
       cutP 17 (atP o4 0) none (some n12) fun r13 =>
       rt [.pv,.sc,.sc,.sc,.sc,.pv,.sc,.pv,.sc,.sc,.sc,.sc,.pv,.sc,.sc,.sc,.pv,.sc,.pv,.sc,.pv] [r13,(atP o4 1),(atP o4 2),(atP o4 3),(atP o4 4),(atP o4 5),(atP o4 6),(atP o4 7),(atP o4 8),(atP o4 9),(atP o4 10),(atP o4 11),(atP o4 12),(atP o4 13),(atP o4 14),(atP o4 15),(atP o4 16),(atP o4 17),(atP o4 18),(atP o4 19),(atP o4 20)] k)
       (rt [.pv,.sc,.sc,.sc,.sc,.pv,.sc,.pv,.sc,.sc,.sc,.sc,.pv,.sc,.sc,.sc,.pv,.sc,.pv,.sc,.pv] [(atP o4 0),(atP o4 1),(atP o4 2),(atP o4 3),(atP o4 4),(atP o4 5),(atP o4 6),(atP o4 7),(atP o4 8),(atP o4 9),(atP o4 10),(atP o4 11),(atP o4 12),(atP o4 13),(atP o4 14),(atP o4 15),(atP o4 16),(atP o4 17),(atP o4 18),(atP o4 19),(atP o4 20)] k))
      (binP .eql a1 (I 3) fun r14 =>
      iteP r14
       (rt [.pv,.sc,.sc,.sc,.sc,.pv,.sc,.pv,.sc,.sc,.sc,.sc,.pv,.sc,.sc,.sc,.pv,.sc,.pv,.sc,.pv] [(atP o4 0),(.bool false),(.str ⟨#[]⟩),(I 0),(I 0),(.list 1 []),(I 0),(.list 1 []),(I 0),(.str ⟨#[]⟩),(I 0),(I 0),(.list 1 []),(.str ⟨#[]⟩),(I 0),(I 0),(.list 1 []),(I 0),(.list 1 []),(I 0),(.list 1 [])] k)
       (rt [.pv,.sc,.sc,.sc,.sc,.pv,.sc,.pv,.sc,.sc,.sc,.sc,.pv,.sc,.sc,.sc,.pv,.sc,.pv,.sc,.pv] [(atP o4 0),(atP o4 1),(atP o4 2),(atP o4 3),(atP o4 4),(atP o4 5),(atP o4 6),(atP o4 7),(atP o4 8),(atP o4 9),(atP o4 10),(atP o4 11),(atP o4 12),(atP o4 13),(atP o4 14),(atP o4 15),(atP o4 16),(atP o4 17),(atP o4 18),(atP o4 19),(atP o4 20)] k)))))) u0
 | _,_=>False
abbrev Qhd_e:Ent:=⟨[170],Qhd⟩
theorem Qhd_w:EntOK Tryz.prog TT Qhd_e:=ok_ tabok (L:=[Qgw_e,Qhc_e]) ⟨Qgw_w,Qhc_w,trivial⟩ (keep:=[]) (l:=[]) Tryz.func170 trivial fun av k h=>by
 unfold Qhd at h;split at h
 ·apply un_all h;clear h;intro a0 a1 h;exact km h
 ·exact h.elim
def Qhe_r0 (v:List PV) (K:List PV→Prop) (x0k:PV→Prop) (x1k:PV→PV→PV→PV→PV→Prop):Prop :=
 un 5 (fun v0 v1 v2 v3 v4 =>
  lenP v3 fun r0 =>
  binP .lss v2 r0 fun r1 =>
  iteP r1
   (elemP 1 v3 v2 fun c2 =>
   lenP (atP c2 0) fun r3 =>
   binP .gtr r3 (I 0) fun r4 =>
   iteP r4
    (elemP 1 v3 v2 fun c5 =>
    elemP 17 (atP c5 0) (I 0) fun c6 =>
    binP .eql (atP c6 0) v0 fun r7 =>
    iteP r7
     (x0k v2)
     (binP .add v2 (I 1) fun r8 =>
     K [v0,v1,r8,v3,v4]))
    (binP .add v2 (I 1) fun r9 =>
    K [v0,v1,r9,v3,v4]))
   (x1k v0 v1 v2 v3 v4)) v
def Qhe:GM
 | [.agg u0,.one a2],k=>un 2 (fun a0 a1 =>
  lp (fun L w=>Qhe_r0 w L
   (fun q10=>rt [.sc] [q10] k)
   (fun q11 q12 q13 q14 q15=>rt [.sc] [(I (-1))] k)) [a2,(I 0),(I 0),a0,a1]) u0
 | _,_=>False
abbrev Qhe_e:Ent:=⟨[240],Qhe⟩
def Qhe_l:List LE:=[⟨none,0,⟨[(1,.one zB),(2,.one (.ptr 0 0)),(4,.one zB),(5,.one zB)],[(0,[zB,zB])],[],1,34,[]⟩,fun K k v=>Qhe_r0 v K (fun x0=>k .ret ⟨[(4,.one (.pv x0))],[],[],1,34,[]⟩) (fun x0 x1 x2 x3 x4=>k (.exit 0) ⟨[(1,.one (.pv x0)),(2,.one (.ptr 0 0)),(4,.one (.pv x1)),(5,.one (.pv x2))],[(0,[.pv x3,.pv x4])],[],1,34,[]⟩)⟩]
theorem Qhe_s:LEsOK [] TT (kk [1,2,4,5,21,22,23,24,25,26,27,28,29,30,31,999999]) Qhe_l Tryz.f240 Qhe_l:=⟨fun v K k h=>by
 apply un_all h;exact fun v0 v1 v2 v3 v4 h=>km h
 ,trivial⟩
theorem Qhe_w:EntOK Tryz.prog TT Qhe_e:=ok_ tabok (L:=[]) trivial (keep:=(kk [1,2,4,5,21,22,23,24,25,26,27,28,29,30,31,999999])) (l:=Qhe_l) Tryz.func240 Qhe_s fun av k h=>by
 unfold Qhe at h;split at h
 ·apply un_all h;clear h;intro a0 a1 h;exact km h
 ·exact h.elim
def Qhf:GM
 | [.agg u0,.agg u1],k=>un 16 (fun a0 a1 a2 a3 a4 a5 a6 a7 a8 a9 a10 a11 a12 a13 a14 a15=>un 16 (fun a16 a17 a18 a19 a20 a21 a22 a23 a24 a25 a26 a27 a28 a29 a30 a31 =>
  call Qbv [.agg [a0,a1,a2,a3,a4,a5,a6,a7,a8,a9,a10,a11,a12,a13,a14,a15]] fun o0 =>
  call Qbv [.agg [a16,a17,a18,a19,a20,a21,a22,a23,a24,a25,a26,a27,a28,a29,a30,a31]] fun o1 =>
  call Qce [.one (atP o0 0),.one (atP o1 0)] fun o2 =>
  iteP (atP o2 0)
   (boolP .eql a15 a31 fun r3 =>
   rt [.sc] [r3] k)
   (rt [.sc] [(.bool false)] k)) u1) u0
 | _,_=>False
abbrev Qhf_e:Ent:=⟨[299],Qhf⟩
theorem Qhf_w:EntOK Tryz.prog TT Qhf_e:=ok_ tabok (L:=[Qbv_e,Qce_e]) ⟨Qbv_w,Qce_w,trivial⟩ (keep:=[]) (l:=[]) Tryz.func299 trivial fun av k h=>by
 unfold Qhf at h;split at h
 ·apply un_all h;clear h;intro a0 a1 a2 a3 a4 a5 a6 a7 a8 a9 a10 a11 a12 a13 a14 a15 h;apply un_all h;clear h;intro a16 a17 a18 a19 a20 a21 a22 a23 a24 a25 a26 a27 a28 a29 a30 a31 h;exact km h
 ·exact h.elim
def Qhg_r0 (v:List PV) (K:List PV→Prop) (x0k:Prop) (x1k:PV→PV→PV→PV→Prop):Prop :=
 un 4 (fun v0 v1 v2 v3 =>
  lenP v0 fun r0 =>
  binP .lss v3 r0 fun r1 =>
  iteP r1
   (elemP 17 v0 v3 fun c2 =>
   elemP 17 v1 v3 fun c3 =>
   call Qhf [.agg [(atP c2 0),(atP c2 1),(atP c2 2),(atP c2 3),(atP c2 4),(atP c2 5),(atP c2 6),(atP c2 7),(atP c2 8),(atP c2 9),(atP c2 10),(atP c2 11),(atP c2 12),(atP c2 13),(atP c2 14),(atP c2 15)],.agg [(atP c3 0),(atP c3 1),(atP c3 2),(atP c3 3),(atP c3 4),(atP c3 5),(atP c3 6),(atP c3 7),(atP c3 8),(atP c3 9),(atP c3 10),(atP c3 11),(atP c3 12),(atP c3 13),(atP c3 14),(atP c3 15)]] fun o4 =>
   unP .not (atP o4 0) fun r5 =>
   iteP r5
    (x0k)
    (binP .add v3 (I 1) fun r6 =>
    K [v0,v1,v2,r6]))
   (x1k v0 v1 v2 v3)) v
def Qhg:GM
 | [.one a0,.one a1],k =>
  lenP a0 fun r0 =>
  lenP a1 fun r1 =>
  binP .gtr r0 r1 fun r2 =>
  iteP r2
   (rt [.sc] [(.bool false)] k)
   (lp (fun L w=>Qhg_r0 w L
    (rt [.sc] [(.bool false)] k)
    (fun q7 q8 q9 q10=>rt [.sc] [(.bool true)] k)) [a0,a1,(.bool false),(I 0)])
 | _,_=>False
abbrev Qhg_e:Ent:=⟨[298],Qhg⟩
def Qhg_l:List LE:=[⟨none,0,⟨[(0,.one zB),(1,.one zB),(4,.one zB),(5,.one zB)],[],[],0,29,[]⟩,fun K k v=>Qhg_r0 v K (k .ret ⟨[(4,.one (.kb false))],[],[],1,29,[]⟩) (fun x0 x1 x2 x3=>k (.exit 0) ⟨[(0,.one (.pv x0)),(1,.one (.pv x1)),(4,.one (.pv x2)),(5,.one (.pv x3))],[],[],0,29,[]⟩)⟩]
theorem Qhg_s:LEsOK [Qhf_e] TT (kk [0,1,4,5,999999]) Qhg_l Tryz.f298 Qhg_l:=⟨fun v K k h=>by
 apply un_all h;exact fun v0 v1 v2 v3 h=>km h
 ,trivial⟩
theorem Qhg_w:EntOK Tryz.prog TT Qhg_e:=ok_ tabok (L:=[Qhf_e]) ⟨Qhf_w,trivial⟩ (keep:=(kk [0,1,4,5,999999])) (l:=Qhg_l) Tryz.func298 Qhg_s fun av k h=>by
 unfold Qhg at h;split at h
 ·exact km h
 ·exact h.elim
def Qhh:GM
 | [.agg u0,.one a2],k=>un 2 (fun a0 a1 =>
  call Qcm [.one a2] fun o0 =>
  unP .not (atP o0 0) fun r1 =>
  iteP r1
   (rt [.sc] [(I 6)] k)
   (elemP 17 a2 (I 0) fun c2 =>
   call Qhe [.agg [a0,a1],.one (atP c2 0)] fun o3 =>
   binP .lss (atP o3 0) (I 0) fun r4 =>
   iteP r4
    (rt [.sc] [(I 1)] k)
    (elemP 1 a0 (atP o3 0) fun c5 =>
    call Qhg [.one (atP c5 0),.one a2] fun o6 =>
    elemP 1 a0 (atP o3 0) fun c7 =>
    call Qhg [.one a2,.one (atP c7 0)] fun o8 =>
    iteP (atP o6 0)
     (iteP (atP o8 0)
      (rt [.sc] [(I 2)] k)
      (iteP (atP o6 0)
       (rt [.sc] [(I 3)] k)
       (iteP (atP o8 0)
        (rt [.sc] [(I 4)] k)
        (rt [.sc] [(I 5)] k))))
     (iteP (atP o6 0)
      (rt [.sc] [(I 3)] k)
      (iteP (atP o8 0)
       (rt [.sc] [(I 4)] k)
       (rt [.sc] [(I 5)] k)))))) u0
 | _,_=>False
abbrev Qhh_e:Ent:=⟨[239],Qhh⟩
theorem Qhh_w:EntOK Tryz.prog TT Qhh_e:=ok_ tabok (L:=[Qcm_e,Qhe_e,Qhg_e]) ⟨Qcm_w,Qhe_w,Qhg_w,trivial⟩ (keep:=[]) (l:=[]) Tryz.func239 trivial fun av k h=>by
 unfold Qhh at h;split at h
 ·apply un_all h;clear h;intro a0 a1 h;exact km h
 ·exact h.elim
def Qhi_r0 (v:List PV) (K:List PV→Prop) (x0k:PV→PV→PV→PV→PV→PV→PV→PV→PV→PV→PV→PV→PV→PV→PV→PV→PV→PV→PV→PV→PV→PV→PV→PV→PV→PV→PV→PV→PV→PV→PV→PV→PV→PV→PV→PV→PV→PV→PV→PV→PV→PV→PV→PV→PV→PV→PV→PV→PV→PV→PV→PV→PV→PV→PV→PV→PV→PV→PV→PV→PV→PV→PV→PV→PV→PV→PV→PV→PV→PV→PV→PV→PV→PV→PV→PV→PV→PV→PV→PV→PV→PV→PV→PV→PV→PV→PV→PV→PV→PV→PV→PV→Prop) (x1k:PV→PV→PV→PV→PV→PV→PV→PV→PV→PV→PV→PV→PV→PV→PV→PV→PV→PV→PV→PV→PV→PV→PV→PV→PV→PV→PV→PV→PV→PV→PV→PV→PV→PV→PV→PV→PV→PV→PV→PV→PV→PV→PV→PV→PV→PV→PV→PV→PV→PV→PV→PV→PV→PV→PV→PV→PV→Prop) (x2k:PV→PV→PV→PV→PV→PV→PV→PV→PV→PV→PV→PV→PV→PV→PV→PV→PV→PV→PV→PV→PV→PV→PV→PV→PV→PV→PV→PV→PV→PV→PV→PV→PV→PV→PV→PV→PV→PV→PV→PV→PV→PV→PV→PV→PV→PV→PV→PV→PV→PV→PV→PV→PV→PV→PV→Prop):Prop :=
 un 55 (fun v0 v1 v2 v3 v4 v5 v6 v7 v8 v9 v10 v11 v12 v13 v14 v15 v16 v17 v18 v19 v20 v21 v22 v23 v24 v25 v26 v27 v28 v29 v30 v31 v32 v33 v34 v35 v36 v37 v38 v39 v40 v41 v42 v43 v44 v45 v46 v47 v48 v49 v50 v51 v52 v53 v54 =>
  lenP v0 fun r0 =>
  binP .lss v3 r0 fun r1 =>
  iteP r1
   (lenP v1 fun r2 =>
   binP .lss v3 r2 fun r3 =>
   iteP r3
    (elemP 17 v0 v3 fun c4 =>
    elemP 17 v1 v3 fun c5 =>
    call Qhf [.agg [(atP c4 0),(atP c4 1),(atP c4 2),(atP c4 3),(atP c4 4),(atP c4 5),(atP c4 6),(atP c4 7),(atP c4 8),(atP c4 9),(atP c4 10),(atP c4 11),(atP c4 12),(atP c4 13),(atP c4 14),(atP c4 15)],.agg [(atP c5 0),(atP c5 1),(atP c5 2),(atP c5 3),(atP c5 4),(atP c5 5),(atP c5 6),(atP c5 7),(atP c5 8),(atP c5 9),(atP c5 10),(atP c5 11),(atP c5 12),(atP c5 13),(atP c5 14),(atP c5 15)]] fun o6 =>
    iteP (atP o6 0)
     (binP .add v3 (I 1) fun r7 =>
     K [v0,v1,v2,r7,v4,v5,v6,v7,v8,v9,v10,v11,v12,v13,v14,v15,v16,v17,v18,v19,v20,v21,v22,v23,v24,v25,v26,v27,v28,v29,v30,v31,v32,v33,v34,v35,v36,v37,v38,v39,v40,v41,v42,v43,v44,v45,v46,v47,v48,v49,v50,v51,v52,v53,v54])
     (x0k v0 v1 v2 v3 r2 r3 (atP c4 0) (atP c4 1) (atP c4 2) (atP c4 3) (atP c4 4) (atP c4 5) (atP c4 6) (atP c4 7) (atP c4 8) (atP c4 9) (atP c4 10) (atP c4 11) (atP c4 12) (atP c4 13) (atP c4 14) (atP c4 15) (atP c4 16) (atP c5 0) (atP c5 1) (atP c5 2) (atP c5 3) (atP c5 4) (atP c5 5) (atP c5 6) (atP c5 7) (atP c5 8) (atP c5 9) (atP c5 10) (atP c5 11) (atP c5 12) (atP c5 13) (atP c5 14) (atP c5 15) (atP c5 16) (atP o6 0) v4 v5 v6 v7 v8 v9 v10 v11 v12 v13 v14 v15 v16 v17 v18 v19 v20 v21 v22 v23 v24 v25 v26 v27 v28 v29 v30 v31 v32 v33 v34 v35 v36 v37 v38 v39 v40 v41 v42 v43 v44 v45 v46 v47 v48 v49 v50 v51 v52 v53 v54))
    (x1k v0 v1 v2 v3 r2 r3 v4 v5 v6 v7 v8 v9 v10 v11 v12 v13 v14 v15 v16 v17 v18 v19 v20 v21 v22 v23 v24 v25 v26 v27 v28 v29 v30 v31 v32 v33 v34 v35 v36 v37 v38 v39 v40 v41 v42 v43 v44 v45 v46 v47 v48 v49 v50 v51 v52 v53 v54))
   (x2k v0 v1 v2 v3 v4 v5 v6 v7 v8 v9 v10 v11 v12 v13 v14 v15 v16 v17 v18 v19 v20 v21 v22 v23 v24 v25 v26 v27 v28 v29 v30 v31 v32 v33 v34 v35 v36 v37 v38 v39 v40 v41 v42 v43 v44 v45 v46 v47 v48 v49 v50 v51 v52 v53 v54)) v
def Qhi:GM
 | [.one a0,.one a1],k =>
  call Qcm [.one a0] fun o0 =>
  unP .not (atP o0 0) fun r1 =>
  iteP r1
   (rt [.sc,.sc,.sc,.sc,.sc,.sc,.sc,.sc,.pv,.sc,.pv,.sc,.sc,.pv,.sc,.sc,.pv,.sc,.sc,.sc,.sc,.sc,.sc,.sc,.sc,.pv,.sc,.pv,.sc,.sc,.pv,.sc,.sc,.pv,.sc,.sc,.sc,.sc,.sc,.sc,.sc,.sc,.pv,.sc,.pv,.sc,.sc,.pv,.sc,.sc,.pv,.sc] [(I 0),(I 0),(I 0),(I 0),(I 0),(I 0),(I 0),(I 0),(.list 1 []),(I 0),(.list 1 []),(I 0),(I 0),(.list 1 []),(I 0),(.bool false),(.list 2 []),(I 0),(I 0),(I 0),(I 0),(I 0),(I 0),(I 0),(I 0),(.list 1 []),(I 0),(.list 1 []),(I 0),(I 0),(.list 1 []),(I 0),(.bool false),(.list 2 []),(I 0),(I 0),(I 0),(I 0),(I 0),(I 0),(I 0),(I 0),(.list 1 []),(I 0),(.list 1 []),(I 0),(I 0),(.list 1 []),(I 0),(.bool false),(.list 2 []),(.bool false)] k)
   (call Qcm [.one a1] fun o2 =>
   unP .not (atP o2 0) fun r3 =>
   iteP r3
    (rt [.sc,.sc,.sc,.sc,.sc,.sc,.sc,.sc,.pv,.sc,.pv,.sc,.sc,.pv,.sc,.sc,.pv,.sc,.sc,.sc,.sc,.sc,.sc,.sc,.sc,.pv,.sc,.pv,.sc,.sc,.pv,.sc,.sc,.pv,.sc,.sc,.sc,.sc,.sc,.sc,.sc,.sc,.pv,.sc,.pv,.sc,.sc,.pv,.sc,.sc,.pv,.sc] [(I 0),(I 0),(I 0),(I 0),(I 0),(I 0),(I 0),(I 0),(.list 1 []),(I 0),(.list 1 []),(I 0),(I 0),(.list 1 []),(I 0),(.bool false),(.list 2 []),(I 0),(I 0),(I 0),(I 0),(I 0),(I 0),(I 0),(I 0),(.list 1 []),(I 0),(.list 1 []),(I 0),(I 0),(.list 1 []),(I 0),(.bool false),(.list 2 []),(I 0),(I 0),(I 0),(I 0),(I 0),(I 0),(I 0),(I 0),(.list 1 []),(I 0),(.list 1 []),(I 0),(I 0),(.list 1 []),(I 0),(.bool false),(.list 2 []),(.bool false)] k)
    (elemP 17 a0 (I 0) fun c4 =>
    elemP 17 a1 (I 0) fun c5 =>
    binP .neq (atP c4 0) (atP c5 0) fun r6 =>
    iteP r6
     (rt [.sc,.sc,.sc,.sc,.sc,.sc,.sc,.sc,.pv,.sc,.pv,.sc,.sc,.pv,.sc,.sc,.pv,.sc,.sc,.sc,.sc,.sc,.sc,.sc,.sc,.pv,.sc,.pv,.sc,.sc,.pv,.sc,.sc,.pv,.sc,.sc,.sc,.sc,.sc,.sc,.sc,.sc,.pv,.sc,.pv,.sc,.sc,.pv,.sc,.sc,.pv,.sc] [(I 0),(I 0),(I 0),(I 0),(I 0),(I 0),(I 0),(I 0),(.list 1 []),(I 0),(.list 1 []),(I 0),(I 0),(.list 1 []),(I 0),(.bool false),(.list 2 []),(I 0),(I 0),(I 0),(I 0),(I 0),(I 0),(I 0),(I 0),(.list 1 []),(I 0),(.list 1 []),(I 0),(I 0),(.list 1 []),(I 0),(.bool false),(.list 2 []),(I 0),(I 0),(I 0),(I 0),(I 0),(I 0),(I 0),(I 0),(.list 1 []),(I 0),(.list 1 []),(I 0),(I 0),(.list 1 []),(I 0),(.bool false),(.list 2 []),(.bool false)] k)
     (call Qhg [.one a0,.one a1] fun o7 =>
     iteP (atP o7 0)
      (rt [.sc,.sc,.sc,.sc,.sc,.sc,.sc,.sc,.pv,.sc,.pv,.sc,.sc,.pv,.sc,.sc,.pv,.sc,.sc,.sc,.sc,.sc,.sc,.sc,.sc,.pv,.sc,.pv,.sc,.sc,.pv,.sc,.sc,.pv,.sc,.sc,.sc,.sc,.sc,.sc,.sc,.sc,.pv,.sc,.pv,.sc,.sc,.pv,.sc,.sc,.pv,.sc] [(I 0),(I 0),(I 0),(I 0),(I 0),(I 0),(I 0),(I 0),(.list 1 []),(I 0),(.list 1 []),(I 0),(I 0),(.list 1 []),(I 0),(.bool false),(.list 2 []),(I 0),(I 0),(I 0),(I 0),(I 0),(I 0),(I 0),(I 0),(.list 1 []),(I 0),(.list 1 []),(I 0),(I 0),(.list 1 []),(I 0),(.bool false),(.list 2 []),(I 0),(I 0),(I 0),(I 0),(I 0),(I 0),(I 0),(I 0),(.list 1 []),(I 0),(.list 1 []),(I 0),(I 0),(.list 1 []),(I 0),(.bool false),(.list 2 []),(.bool false)] k)
      (call Qhg [.one a1,.one a0] fun o8 =>
      iteP (atP o8 0)
       (rt [.sc,.sc,.sc,.sc,.sc,.sc,.sc,.sc,.pv,.sc,.pv,.sc,.sc,.pv,.sc,.sc,.pv,.sc,.sc,.sc,.sc,.sc,.sc,.sc,.sc,.pv,.sc,.pv,.sc,.sc,.pv,.sc,.sc,.pv,.sc,.sc,.sc,.sc,.sc,.sc,.sc,.sc,.pv,.sc,.pv,.sc,.sc,.pv,.sc,.sc,.pv,.sc] [(I 0),(I 0),(I 0),(I 0),(I 0),(I 0),(I 0),(I 0),(.list 1 []),(I 0),(.list 1 []),(I 0),(I 0),(.list 1 []),(I 0),(.bool false),(.list 2 []),(I 0),(I 0),(I 0),(I 0),(I 0),(I 0),(I 0),(I 0),(.list 1 []),(I 0),(.list 1 []),(I 0),(I 0),(.list 1 []),(I 0),(.bool false),(.list 2 []),(I 0),(I 0),(I 0),(I 0),(I 0),(I 0),(I 0),(I 0),(.list 1 []),(I 0),(.list 1 []),(I 0),(I 0),(.list 1 []),(I 0),(.bool false),(.list 2 []),(.bool false)] k)
       (lp (fun L w=>Qhi_r0 w L
        (fun q9 q10 q11 q12 q13 q14 q15 q16 q17 q18 q19 q20 q21 q22 q23 q24 q25 q26 q27 q28 q29 q30 q31 q32 q33 q34 q35 q36 q37 q38 q39 q40 q41 q42 q43 q44 q45 q46 q47 q48 q49 q50 q51 q52 q53 q54 q55 q56 q57 q58 q59 q60 q61 q62 q63 q64 q65 q66 q67 q68 q69 q70 q71 q72 q73 q74 q75 q76 q77 q78 q79 q80 q81 q82 q83 q84 q85 q86 q87 q88 q89 q90 q91 q92 q93 q94 q95 q96 q97 q98 q99 q100=>elemP 17 q9 q12 fun c101 =>
         call Qbd [.agg [(atP c101 0),(atP c101 1),(atP c101 2),(atP c101 3),(atP c101 4),(atP c101 5),(atP c101 6),(atP c101 7),(atP c101 8),(atP c101 9),(atP c101 10),(atP c101 11),(atP c101 12),(atP c101 13),(atP c101 14),(atP c101 15),(atP c101 16)]] fun o102 =>
         elemP 17 q10 q12 fun c103 =>
         call Qbd [.agg [(atP c103 0),(atP c103 1),(atP c103 2),(atP c103 3),(atP c103 4),(atP c103 5),(atP c103 6),(atP c103 7),(atP c103 8),(atP c103 9),(atP c103 10),(atP c103 11),(atP c103 12),(atP c103 13),(atP c103 14),(atP c103 15),(atP c103 16)]] fun o104 =>
         binP .gtr q12 (I 0) fun r105 =>
         iteP r105
          (binP .sub q12 (I 1) fun r106 =>
          elemP 17 q9 r106 fun c107 =>
          call Qbd [.agg [(atP c107 0),(atP c107 1),(atP c107 2),(atP c107 3),(atP c107 4),(atP c107 5),(atP c107 6),(atP c107 7),(atP c107 8),(atP c107 9),(atP c107 10),(atP c107 11),(atP c107 12),(atP c107 13),(atP c107 14),(atP c107 15),(atP c107 16)]] fun o108 =>
          rt [.sc,.sc,.sc,.sc,.sc,.sc,.sc,.sc,.pv,.sc,.pv,.sc,.sc,.pv,.sc,.sc,.pv,.sc,.sc,.sc,.sc,.sc,.sc,.sc,.sc,.pv,.sc,.pv,.sc,.sc,.pv,.sc,.sc,.pv,.sc,.sc,.sc,.sc,.sc,.sc,.sc,.sc,.pv,.sc,.pv,.sc,.sc,.pv,.sc,.sc,.pv,.sc] [(atP o108 0),(atP o108 1),(atP o108 2),(atP o108 3),(atP o108 4),(atP o108 5),(atP o108 6),(atP o108 7),(atP o108 8),(atP o108 9),(atP o108 10),(atP o108 11),(atP o108 12),(atP o108 13),(atP o108 14),(atP o108 15),(atP o108 16),(atP o102 0),(atP o102 1),(atP o102 2),(atP o102 3),(atP o102 4),(atP o102 5),(atP o102 6),(atP o102 7),(atP o102 8),(atP o102 9),(atP o102 10),(atP o102 11),(atP o102 12),(atP o102 13),(atP o102 14),(atP o102 15),(atP o102 16),(atP o104 0),(atP o104 1),(atP o104 2),(atP o104 3),(atP o104 4),(atP o104 5),(atP o104 6),(atP o104 7),(atP o104 8),(atP o104 9),(atP o104 10),(atP o104 11),(atP o104 12),(atP o104 13),(atP o104 14),(atP o104 15),(atP o104 16),(.bool true)] k)
          (rt [.sc,.sc,.sc,.sc,.sc,.sc,.sc,.sc,.pv,.sc,.pv,.sc,.sc,.pv,.sc,.sc,.pv,.sc,.sc,.sc,.sc,.sc,.sc,.sc,.sc,.pv,.sc,.pv,.sc,.sc,.pv,.sc,.sc,.pv,.sc,.sc,.sc,.sc,.sc,.sc,.sc,.sc,.pv,.sc,.pv,.sc,.sc,.pv,.sc,.sc,.pv,.sc] [(I 0),(I 0),(I 0),(I 0),(I 0),(I 0),(I 0),(I 0),(.list 1 []),(I 0),(.list 1 []),(I 0),(I 0),(.list 1 []),(I 0),(.bool false),(.list 2 []),(atP o102 0),(atP o102 1),(atP o102 2),(atP o102 3),(atP o102 4),(atP o102 5),(atP o102 6),(atP o102 7),(atP o102 8),(atP o102 9),(atP o102 10),(atP o102 11),(atP o102 12),(atP o102 13),(atP o102 14),(atP o102 15),(atP o102 16),(atP o104 0),(atP o104 1),(atP o104 2),(atP o104 3),(atP o104 4),(atP o104 5),(atP o104 6),(atP o104 7),(atP o104 8),(atP o104 9),(atP o104 10),(atP o104 11),(atP o104 12),(atP o104 13),(atP o104 14),(atP o104 15),(atP o104 16),(.bool true)] k))
        (fun q109 q110 q111 q112 q113 q114 q115 q116 q117 q118 q119 q120 q121 q122 q123 q124 q125 q126 q127 q128 q129 q130 q131 q132 q133 q134 q135 q136 q137 q138 q139 q140 q141 q142 q143 q144 q145 q146 q147 q148 q149 q150 q151 q152 q153 q154 q155 q156 q157 q158 q159 q160 q161 q162 q163 q164 q165=>elemP 17 q109 q112 fun c166 =>
         call Qbd [.agg [(atP c166 0),(atP c166 1),(atP c166 2),(atP c166 3),(atP c166 4),(atP c166 5),(atP c166 6),(atP c166 7),(atP c166 8),(atP c166 9),(atP c166 10),(atP c166 11),(atP c166 12),(atP c166 13),(atP c166 14),(atP c166 15),(atP c166 16)]] fun o167 =>
         elemP 17 q110 q112 fun c168 =>
         call Qbd [.agg [(atP c168 0),(atP c168 1),(atP c168 2),(atP c168 3),(atP c168 4),(atP c168 5),(atP c168 6),(atP c168 7),(atP c168 8),(atP c168 9),(atP c168 10),(atP c168 11),(atP c168 12),(atP c168 13),(atP c168 14),(atP c168 15),(atP c168 16)]] fun o169 =>
         binP .gtr q112 (I 0) fun r170 =>
         iteP r170
          (binP .sub q112 (I 1) fun r171 =>
          elemP 17 q109 r171 fun c172 =>
          call Qbd [.agg [(atP c172 0),(atP c172 1),(atP c172 2),(atP c172 3),(atP c172 4),(atP c172 5),(atP c172 6),(atP c172 7),(atP c172 8),(atP c172 9),(atP c172 10),(atP c172 11),(atP c172 12),(atP c172 13),(atP c172 14),(atP c172 15),(atP c172 16)]] fun o173 =>
          rt [.sc,.sc,.sc,.sc,.sc,.sc,.sc,.sc,.pv,.sc,.pv,.sc,.sc,.pv,.sc,.sc,.pv,.sc,.sc,.sc,.sc,.sc,.sc,.sc,.sc,.pv,.sc,.pv,.sc,.sc,.pv,.sc,.sc,.pv,.sc,.sc,.sc,.sc,.sc,.sc,.sc,.sc,.pv,.sc,.pv,.sc,.sc,.pv,.sc,.sc,.pv,.sc] [(atP o173 0),(atP o173 1),(atP o173 2),(atP o173 3),(atP o173 4),(atP o173 5),(atP o173 6),(atP o173 7),(atP o173 8),(atP o173 9),(atP o173 10),(atP o173 11),(atP o173 12),(atP o173 13),(atP o173 14),(atP o173 15),(atP o173 16),(atP o167 0),(atP o167 1),(atP o167 2),(atP o167 3),(atP o167 4),(atP o167 5),(atP o167 6),(atP o167 7),(atP o167 8),(atP o167 9),(atP o167 10),(atP o167 11),(atP o167 12),(atP o167 13),(atP o167 14),(atP o167 15),(atP o167 16),(atP o169 0),(atP o169 1),(atP o169 2),(atP o169 3),(atP o169 4),(atP o169 5),(atP o169 6),(atP o169 7),(atP o169 8),(atP o169 9),(atP o169 10),(atP o169 11),(atP o169 12),(atP o169 13),(atP o169 14),(atP o169 15),(atP o169 16),(.bool true)] k)
          (rt [.sc,.sc,.sc,.sc,.sc,.sc,.sc,.sc,.pv,.sc,.pv,.sc,.sc,.pv,.sc,.sc,.pv,.sc,.sc,.sc,.sc,.sc,.sc,.sc,.sc,.pv,.sc,.pv,.sc,.sc,.pv,.sc,.sc,.pv,.sc,.sc,.sc,.sc,.sc,.sc,.sc,.sc,.pv,.sc,.pv,.sc,.sc,.pv,.sc,.sc,.pv,.sc] [(I 0),(I 0),(I 0),(I 0),(I 0),(I 0),(I 0),(I 0),(.list 1 []),(I 0),(.list 1 []),(I 0),(I 0),(.list 1 []),(I 0),(.bool false),(.list 2 []),(atP o167 0),(atP o167 1),(atP o167 2),(atP o167 3),(atP o167 4),(atP o167 5),(atP o167 6),(atP o167 7),(atP o167 8),(atP o167 9),(atP o167 10),(atP o167 11),(atP o167 12),(atP o167 13),(atP o167 14),(atP o167 15),(atP o167 16),(atP o169 0),(atP o169 1),(atP o169 2),(atP o169 3),(atP o169 4),(atP o169 5),(atP o169 6),(atP o169 7),(atP o169 8),(atP o169 9),(atP o169 10),(atP o169 11),(atP o169 12),(atP o169 13),(atP o169 14),(atP o169 15),(atP o169 16),(.bool true)] k))
        (fun q174 q175 q176 q177 q178 q179 q180 q181 q182 q183 q184 q185 q186 q187 q188 q189 q190 q191 q192 q193 q194 q195 q196 q197 q198 q199 q200 q201 q202 q203 q204 q205 q206 q207 q208 q209 q210 q211 q212 q213 q214 q215 q216 q217 q218 q219 q220 q221 q222 q223 q224 q225 q226 q227 q228=>elemP 17 q174 q177 fun c229 =>
         call Qbd [.agg [(atP c229 0),(atP c229 1),(atP c229 2),(atP c229 3),(atP c229 4),(atP c229 5),(atP c229 6),(atP c229 7),(atP c229 8),(atP c229 9),(atP c229 10),(atP c229 11),(atP c229 12),(atP c229 13),(atP c229 14),(atP c229 15),(atP c229 16)]] fun o230 =>
         elemP 17 q175 q177 fun c231 =>
         call Qbd [.agg [(atP c231 0),(atP c231 1),(atP c231 2),(atP c231 3),(atP c231 4),(atP c231 5),(atP c231 6),(atP c231 7),(atP c231 8),(atP c231 9),(atP c231 10),(atP c231 11),(atP c231 12),(atP c231 13),(atP c231 14),(atP c231 15),(atP c231 16)]] fun o232 =>
         binP .gtr q177 (I 0) fun r233 =>
         iteP r233
          (binP .sub q177 (I 1) fun r234 =>
          elemP 17 q174 r234 fun c235 =>
          call Qbd [.agg [(atP c235 0),(atP c235 1),(atP c235 2),(atP c235 3),(atP c235 4),(atP c235 5),(atP c235 6),(atP c235 7),(atP c235 8),(atP c235 9),(atP c235 10),(atP c235 11),(atP c235 12),(atP c235 13),(atP c235 14),(atP c235 15),(atP c235 16)]] fun o236 =>
          rt [.sc,.sc,.sc,.sc,.sc,.sc,.sc,.sc,.pv,.sc,.pv,.sc,.sc,.pv,.sc,.sc,.pv,.sc,.sc,.sc,.sc,.sc,.sc,.sc,.sc,.pv,.sc,.pv,.sc,.sc,.pv,.sc,.sc,.pv,.sc,.sc,.sc,.sc,.sc,.sc,.sc,.sc,.pv,.sc,.pv,.sc,.sc,.pv,.sc,.sc,.pv,.sc] [(atP o236 0),(atP o236 1),(atP o236 2),(atP o236 3),(atP o236 4),(atP o236 5),(atP o236 6),(atP o236 7),(atP o236 8),(atP o236 9),(atP o236 10),(atP o236 11),(atP o236 12),(atP o236 13),(atP o236 14),(atP o236 15),(atP o236 16),(atP o230 0),(atP o230 1),(atP o230 2),(atP o230 3),(atP o230 4),(atP o230 5),(atP o230 6),(atP o230 7),(atP o230 8),(atP o230 9),(atP o230 10),(atP o230 11),(atP o230 12),(atP o230 13),(atP o230 14),(atP o230 15),(atP o230 16),(atP o232 0),(atP o232 1),(atP o232 2),(atP o232 3),(atP o232 4),(atP o232 5),(atP o232 6),(atP o232 7),(atP o232 8),(atP o232 9),(atP o232 10),(atP o232 11),(atP o232 12),(atP o232 13),(atP o232 14),(atP o232 15),(atP o232 16),(.bool true)] k)
          (rt [.sc,.sc,.sc,.sc,.sc,.sc,.sc,.sc,.pv,.sc,.pv,.sc,.sc,.pv,.sc,.sc,.pv,.sc,.sc,.sc,.sc,.sc,.sc,.sc,.sc,.pv,.sc,.pv,.sc,.sc,.pv,.sc,.sc,.pv,.sc,.sc,.sc,.sc,.sc,.sc,.sc,.sc,.pv,.sc,.pv,.sc,.sc,.pv,.sc,.sc,.pv,.sc] [(I 0),(I 0),(I 0),(I 0),(I 0),(I 0),(I 0),(I 0),(.list 1 []),(I 0),(.list 1 []),(I 0),(I 0),(.list 1 []),(I 0),(.bool false),(.list 2 []),(atP o230 0),(atP o230 1),(atP o230 2),(atP o230 3),(atP o230 4),(atP o230 5),(atP o230 6),(atP o230 7),(atP o230 8),(atP o230 9),(atP o230 10),(atP o230 11),(atP o230 12),(atP o230 13),(atP o230 14),(atP o230 15),(atP o230 16),(atP o232 0),(atP o232 1),(atP o232 2),(atP o232 3),(atP o232 4),(atP o232 5),(atP o232 6),(atP o232 7),(atP o232 8),(atP o232 9),(atP o232 10),(atP o232 11),(atP o232 12),(atP o232 13),(atP o232 14),(atP o232 15),(atP o232 16),(.bool true)] k))) [a0,a1,(.bool false),(I 0),(I 0),(I 0),(I 0),(I 0),(I 0),(I 0),(I 0),(I 0),(I 0),(I 0),(I 0),(I 0),(.bool false),(I 0),(I 0),(I 0),(I 0),(I 0),(I 0),(I 0),(I 0),(I 0),(I 0),(I 0),(I 0),(.bool false),(I 0),(I 0),(I 0),(I 0),(I 0),(I 0),(I 0),(I 0),(I 0),(I 0),(I 0),(I 0),(.bool false),(.list 2 []),(.list 1 []),(.list 1 []),(.list 1 []),(.list 2 []),(.list 1 []),(.list 1 []),(.list 1 []),(.list 2 []),(.list 1 []),(.list 1 []),(.list 1 [])])))))
 | _,_=>False
abbrev Qhi_e:Ent:=⟨[241],Qhi⟩
def Qhi_l:List LE:=[⟨none,0,⟨[(0,.one zB),(1,.one zB),(4,.one (.ptr 0 0)),(5,.one zB),(6,.one zB)],[(0,[zB,zB,zB,zB,zB,zB,zB,zB,.own 5,zB,.own 6,zB,zB,.own 7,zB,zB,.own 8,zB,zB,zB,zB,zB,zB,zB,zB,.own 9,zB,.own 10,zB,zB,.own 11,zB,zB,.own 12,zB,zB,zB,zB,zB,zB,zB,zB,.own 13,zB,.own 14,zB,zB,.own 15,zB,zB,.own 16])],[(16,⟨.deep,317,2,(.bool false)⟩),(15,⟨.deep,3,1,(.bool false)⟩),(14,⟨.deep,3,1,(.bool false)⟩),(13,⟨.deep,3,1,(.bool false)⟩),(12,⟨.deep,317,2,(.bool false)⟩),(11,⟨.deep,3,1,(.bool false)⟩),(10,⟨.deep,3,1,(.bool false)⟩),(9,⟨.deep,3,1,(.bool false)⟩),(8,⟨.deep,317,2,(.bool false)⟩),(7,⟨.deep,3,1,(.bool false)⟩),(6,⟨.deep,3,1,(.bool false)⟩),(5,⟨.deep,3,1,(.bool false)⟩)],17,86,[]⟩,fun K k v=>Qhi_r0 v K (fun x0 x1 x2 x3 x4 x5 x6 x7 x8 x9 x10 x11 x12 x13 x14 x15 x16 x17 x18 x19 x20 x21 x22 x23 x24 x25 x26 x27 x28 x29 x30 x31 x32 x33 x34 x35 x36 x37 x38 x39 x40 x41 x42 x43 x44 x45 x46 x47 x48 x49 x50 x51 x52 x53 x54 x55 x56 x57 x58 x59 x60 x61 x62 x63 x64 x65 x66 x67 x68 x69 x70 x71 x72 x73 x74 x75 x76 x77 x78 x79 x80 x81 x82 x83 x84 x85 x86 x87 x88 x89 x90 x91=>k (.exit 0) ⟨[(0,.one (.pv x0)),(1,.one (.pv x1)),(4,.one (.ptr 0 0)),(5,.one (.pv x2)),(6,.one (.pv x3)),(45,.one (.pv x3)),(46,.one (.pv x1)),(47,.one (.pv x4)),(48,.one (.pv x5)),(51,.one (.pv x0)),(52,.one (.pv x3)),(53,.one (.sptr [x6,x7,x8,x9,x10,x11,x12,x13,x14,x15,x16,x17,x18,x19,x20,x21,x22])),(54,.one (.sptr [x6,x7,x8,x9,x10,x11,x12,x13,x14,x15,x16,x17,x18,x19,x20,x21,x22])),(55,.agg [.pv x6,.pv x7,.pv x8,.pv x9,.pv x10,.pv x11,.pv x12,.pv x13,.pv x14,.pv x15,.pv x16,.pv x17,.pv x18,.pv x19,.pv x20,.pv x21]),(56,.one (.pv x1)),(57,.one (.pv x3)),(58,.one (.sptr [x23,x24,x25,x26,x27,x28,x29,x30,x31,x32,x33,x34,x35,x36,x37,x38,x39])),(59,.one (.sptr [x23,x24,x25,x26,x27,x28,x29,x30,x31,x32,x33,x34,x35,x36,x37,x38,x39])),(60,.agg [.pv x23,.pv x24,.pv x25,.pv x26,.pv x27,.pv x28,.pv x29,.pv x30,.pv x31,.pv x32,.pv x33,.pv x34,.pv x35,.pv x36,.pv x37,.pv x38]),(61,.one (.pv x40))],[(0,[.pv x41,.pv x42,.pv x43,.pv x44,.pv x45,.pv x46,.pv x47,.pv x48,.own 5,.pv x49,.own 6,.pv x50,.pv x51,.own 7,.pv x52,.pv x53,.own 8,.pv x54,.pv x55,.pv x56,.pv x57,.pv x58,.pv x59,.pv x60,.pv x61,.own 9,.pv x62,.own 10,.pv x63,.pv x64,.own 11,.pv x65,.pv x66,.own 12,.pv x67,.pv x68,.pv x69,.pv x70,.pv x71,.pv x72,.pv x73,.pv x74,.own 13,.pv x75,.own 14,.pv x76,.pv x77,.own 15,.pv x78,.pv x79,.own 16])],[(16,⟨.deep,317,2,x80⟩),(15,⟨.deep,3,1,x81⟩),(14,⟨.deep,3,1,x82⟩),(13,⟨.deep,3,1,x83⟩),(12,⟨.deep,317,2,x84⟩),(11,⟨.deep,3,1,x85⟩),(10,⟨.deep,3,1,x86⟩),(9,⟨.deep,3,1,x87⟩),(8,⟨.deep,317,2,x88⟩),(7,⟨.deep,3,1,x89⟩),(6,⟨.deep,3,1,x90⟩),(5,⟨.deep,3,1,x91⟩)],18,86,[]⟩) (fun x0 x1 x2 x3 x4 x5 x6 x7 x8 x9 x10 x11 x12 x13 x14 x15 x16 x17 x18 x19 x20 x21 x22 x23 x24 x25 x26 x27 x28 x29 x30 x31 x32 x33 x34 x35 x36 x37 x38 x39 x40 x41 x42 x43 x44 x45 x46 x47 x48 x49 x50 x51 x52 x53 x54 x55 x56=>k (.exit 0) ⟨[(0,.one (.pv x0)),(1,.one (.pv x1)),(4,.one (.ptr 0 0)),(5,.one (.pv x2)),(6,.one (.pv x3)),(45,.one (.pv x3)),(46,.one (.pv x1)),(47,.one (.pv x4)),(48,.one (.pv x5)),(51,.undef),(52,.undef),(53,.undef),(54,.undef),(55,.undef),(56,.undef),(57,.undef),(58,.undef),(59,.undef),(60,.undef),(61,.undef)],[(0,[.pv x6,.pv x7,.pv x8,.pv x9,.pv x10,.pv x11,.pv x12,.pv x13,.own 5,.pv x14,.own 6,.pv x15,.pv x16,.own 7,.pv x17,.pv x18,.own 8,.pv x19,.pv x20,.pv x21,.pv x22,.pv x23,.pv x24,.pv x25,.pv x26,.own 9,.pv x27,.own 10,.pv x28,.pv x29,.own 11,.pv x30,.pv x31,.own 12,.pv x32,.pv x33,.pv x34,.pv x35,.pv x36,.pv x37,.pv x38,.pv x39,.own 13,.pv x40,.own 14,.pv x41,.pv x42,.own 15,.pv x43,.pv x44,.own 16])],[(16,⟨.deep,317,2,x45⟩),(15,⟨.deep,3,1,x46⟩),(14,⟨.deep,3,1,x47⟩),(13,⟨.deep,3,1,x48⟩),(12,⟨.deep,317,2,x49⟩),(11,⟨.deep,3,1,x50⟩),(10,⟨.deep,3,1,x51⟩),(9,⟨.deep,3,1,x52⟩),(8,⟨.deep,317,2,x53⟩),(7,⟨.deep,3,1,x54⟩),(6,⟨.deep,3,1,x55⟩),(5,⟨.deep,3,1,x56⟩)],17,86,[]⟩) (fun x0 x1 x2 x3 x4 x5 x6 x7 x8 x9 x10 x11 x12 x13 x14 x15 x16 x17 x18 x19 x20 x21 x22 x23 x24 x25 x26 x27 x28 x29 x30 x31 x32 x33 x34 x35 x36 x37 x38 x39 x40 x41 x42 x43 x44 x45 x46 x47 x48 x49 x50 x51 x52 x53 x54=>k (.exit 0) ⟨[(0,.one (.pv x0)),(1,.one (.pv x1)),(4,.one (.ptr 0 0)),(5,.one (.pv x2)),(6,.one (.pv x3)),(45,.undef),(46,.undef),(47,.undef),(48,.undef),(51,.undef),(52,.undef),(53,.undef),(54,.undef),(55,.undef),(56,.undef),(57,.undef),(58,.undef),(59,.undef),(60,.undef),(61,.undef)],[(0,[.pv x4,.pv x5,.pv x6,.pv x7,.pv x8,.pv x9,.pv x10,.pv x11,.own 5,.pv x12,.own 6,.pv x13,.pv x14,.own 7,.pv x15,.pv x16,.own 8,.pv x17,.pv x18,.pv x19,.pv x20,.pv x21,.pv x22,.pv x23,.pv x24,.own 9,.pv x25,.own 10,.pv x26,.pv x27,.own 11,.pv x28,.pv x29,.own 12,.pv x30,.pv x31,.pv x32,.pv x33,.pv x34,.pv x35,.pv x36,.pv x37,.own 13,.pv x38,.own 14,.pv x39,.pv x40,.own 15,.pv x41,.pv x42,.own 16])],[(16,⟨.deep,317,2,x43⟩),(15,⟨.deep,3,1,x44⟩),(14,⟨.deep,3,1,x45⟩),(13,⟨.deep,3,1,x46⟩),(12,⟨.deep,317,2,x47⟩),(11,⟨.deep,3,1,x48⟩),(10,⟨.deep,3,1,x49⟩),(9,⟨.deep,3,1,x50⟩),(8,⟨.deep,317,2,x51⟩),(7,⟨.deep,3,1,x52⟩),(6,⟨.deep,3,1,x53⟩),(5,⟨.deep,3,1,x54⟩)],17,86,[]⟩)⟩]
theorem Qhi_s:LEsOK [Qcm_e,Qhg_e,Qhf_e,Qbd_e] TT (kk [0,1,4,5,6,45,46,47,48,51,52,53,54,55,56,57,58,59,60,61,999999]) Qhi_l Tryz.f241 Qhi_l:=⟨fun v K k h=>by
 apply un_all h;exact fun v0 v1 v2 v3 v4 v5 v6 v7 v8 v9 v10 v11 v12 v13 v14 v15 v16 v17 v18 v19 v20 v21 v22 v23 v24 v25 v26 v27 v28 v29 v30 v31 v32 v33 v34 v35 v36 v37 v38 v39 v40 v41 v42 v43 v44 v45 v46 v47 v48 v49 v50 v51 v52 v53 v54 h=>km h
 ,trivial⟩
theorem Qhi_w:EntOK Tryz.prog TT Qhi_e:=ok_ tabok (L:=[Qcm_e,Qhg_e,Qhf_e,Qbd_e]) ⟨Qcm_w,Qhg_w,Qhf_w,Qbd_w,trivial⟩ (keep:=(kk [0,1,4,5,6,45,46,47,48,51,52,53,54,55,56,57,58,59,60,61,999999])) (l:=Qhi_l) Tryz.func241 Qhi_s fun av k h=>by
 unfold Qhi at h;split at h
 ·exact km h
 ·exact h.elim
def Qhj:GM
 | [.agg u0,.one a2],k=>un 2 (fun a0 a1 =>
  call Qbg [.agg [a0,a1]] fun o0 =>
  call Qhh [.agg [a0,a1],.one a2] fun o1 =>
  binP .eql (atP o1 0) (I 1) fun r2 =>
  iteP r2
   (lenP a0 fun r3 =>
   binP .geq r3 (I 8) fun r4 =>
   iteP r4
    (rt [.pv,.pv,.sc] [(atP o0 0),(atP o0 1),(I 6)] k)
    (call Qbe [.one a2] fun o5 =>
    (1=1)∧(1≤16777216)∧(1=1)∧(0=0)∧(1=1)∧catP 1 (atP o0 0) (.list 1 [[(atP o5 0)]]) fun r6 =>
    rt [.pv,.pv,.sc] [r6,(atP o0 1),(atP o1 0)] k))
   (binP .eql (atP o1 0) (I 3) fun r7 =>
   iteP r7
    (elemP 17 a2 (I 0) fun c8 =>
    call Qhe [.agg [a0,a1],.one (atP c8 0)] fun o9 =>
    call Qbe [.one a2] fun o10 =>
    boundP 1 (atP o0 0) (atP o9 0) fun n11 =>
    setP (atP o0 0) n11 0 [(atP o10 0)] fun r12 =>
    rt [.pv,.pv,.sc] [r12,(atP o0 1),(atP o1 0)] k)
    (binP .eql (atP o1 0) (I 5) fun r13 =>
    iteP r13
     (elemP 17 a2 (I 0) fun c14 =>
     call Qhe [.agg [a0,a1],.one (atP c14 0)] fun o15 =>
     elemP 1 a0 (atP o15 0) fun c16 =>
     call Qhi [.one (atP c16 0),.one a2] fun o17 =>
     iteP (atP o17 51)
      (lenP a1 fun r18 =>
      binP .lss r18 (I 8) fun r19 =>
      iteP r19
       ((1=1)∧(51≤16777216)∧(51=51)∧(0=0)∧(51=51)∧catP 51 (atP o0 1) (.list 51 [[(atP o17 0),(atP o17 1),(atP o17 2),(atP o17 3),(atP o17 4),(atP o17 5),(atP o17 6),(atP o17 7),(atP o17 8),(atP o17 9),(atP o17 10),(atP o17 11),(atP o17 12),(atP o17 13),(atP o17 14),(atP o17 15),(atP o17 16),(atP o17 17),(atP o17 18),(atP o17 19),(atP o17 20),(atP o17 21),(atP o17 22),(atP o17 23),(atP o17 24),(atP o17 25),(atP o17 26),(atP o17 27),(atP o17 28),(atP o17 29),(atP o17 30),(atP o17 31),(atP o17 32),(atP o17 33),(atP o17 34),(atP o17 35),(atP o17 36),(atP o17 37),(atP o17 38),(atP o17 39),(atP o17 40),(atP o17 41),(atP o17 42),(atP o17 43),(atP o17 44),(atP o17 45),(atP o17 46),(atP o17 47),(atP o17 48),(atP o17 49),(atP o17 50)]]) fun r20 =>
       rt [.pv,.pv,.sc] [(atP o0 0),r20,(atP o1 0)] k)
       (rt [.pv,.pv,.sc] [(atP o0 0),(atP o0 1),(atP o1 0)] k))
      (rt [.pv,.pv,.sc] [(atP o0 0),(atP o0 1),(atP o1 0)] k))
     (rt [.pv,.pv,.sc] [(atP o0 0),(atP o0 1),(atP o1 0)] k)))) u0
 | _,_=>False
abbrev Qhj_e:Ent:=⟨[172],Qhj⟩
theorem Qhj_w:EntOK Tryz.prog TT Qhj_e:=ok_ tabok (L:=[Qbg_e,Qhh_e,Qbe_e,Qhe_e,Qhi_e]) ⟨Qbg_w,Qhh_w,Qbe_w,Qhe_w,Qhi_w,trivial⟩ (keep:=[]) (l:=[]) Tryz.func172 trivial fun av k h=>by
 unfold Qhj at h;split at h
 ·apply un_all h;clear h;intro a0 a1 h;exact km h
 ·exact h.elim
def Qhk:GM
 | [.agg u0,.one a16],k=>un 16 (fun a0 a1 a2 a3 a4 a5 a6 a7 a8 a9 a10 a11 a12 a13 a14 a15 =>
  call Qbn [.one a16,.one a3,.one a4] fun o0 =>
  rt [.sc] [(atP o0 0)] k) u0
 | _,_=>False
abbrev Qhk_e:Ent:=⟨[242],Qhk⟩
theorem Qhk_w:EntOK Tryz.prog TT Qhk_e:=ok_ tabok (L:=[Qbn_e]) ⟨Qbn_w,trivial⟩ (keep:=[]) (l:=[]) Tryz.func242 trivial fun av k h=>by
 unfold Qhk at h;split at h
 ·apply un_all h;clear h;intro a0 a1 a2 a3 a4 a5 a6 a7 a8 a9 a10 a11 a12 a13 a14 a15 h;exact km h
 ·exact h.elim
def Qhl_r0 (v:List PV) (K:List PV→Prop) (x0k:Prop) (x1k:PV→PV→PV→PV→PV→PV→PV→Prop):Prop :=
 un 7 (fun v0 v1 v2 v3 v4 v5 v6 =>
  binP .gtr v2 (I 1) fun r0 =>
  iteP r0
   (binP .rem v1 (I 2) fun r1 =>
   binP .eql r1 (I 1) fun r2 =>
   iteP r2
    (lenP v3 fun r3 =>
    binP .geq v6 r3 fun r4 =>
    iteP r4
     (x0k)
     (binP .rem v1 (I 2) fun r5 =>
     binP .eql r5 (I 1) fun r6 =>
     iteP r6
      (elemP 1 v3 v6 fun c7 =>
      call Qcy [.one (atP c7 0),.one v0] fun o8 =>
      binP .add v6 (I 1) fun r9 =>
      binP .quo v1 (I 2) fun r10 =>
      binP .add v2 (I 1) fun r11 =>
      binP .quo r11 (I 2) fun r12 =>
      K [(atP o8 0),r10,r12,v3,v4,v5,r9])
      (elemP 1 v3 v6 fun c13 =>
      call Qcy [.one v0,.one (atP c13 0)] fun o14 =>
      binP .add v6 (I 1) fun r15 =>
      binP .quo v1 (I 2) fun r16 =>
      binP .add v2 (I 1) fun r17 =>
      binP .quo r17 (I 2) fun r18 =>
      K [(atP o14 0),r16,r18,v3,v4,v5,r15])))
    (binP .add v1 (I 1) fun r19 =>
    binP .lss r19 v2 fun r20 =>
    iteP r20
     (lenP v3 fun r21 =>
     binP .geq v6 r21 fun r22 =>
     iteP r22
      (x0k)
      (binP .rem v1 (I 2) fun r23 =>
      binP .eql r23 (I 1) fun r24 =>
      iteP r24
       (elemP 1 v3 v6 fun c25 =>
       call Qcy [.one (atP c25 0),.one v0] fun o26 =>
       binP .add v6 (I 1) fun r27 =>
       binP .quo v1 (I 2) fun r28 =>
       binP .add v2 (I 1) fun r29 =>
       binP .quo r29 (I 2) fun r30 =>
       K [(atP o26 0),r28,r30,v3,v4,v5,r27])
       (elemP 1 v3 v6 fun c31 =>
       call Qcy [.one v0,.one (atP c31 0)] fun o32 =>
       binP .add v6 (I 1) fun r33 =>
       binP .quo v1 (I 2) fun r34 =>
       binP .add v2 (I 1) fun r35 =>
       binP .quo r35 (I 2) fun r36 =>
       K [(atP o32 0),r34,r36,v3,v4,v5,r33])))
     (binP .quo v1 (I 2) fun r37 =>
     binP .add v2 (I 1) fun r38 =>
     binP .quo r38 (I 2) fun r39 =>
     K [v0,r37,r39,v3,v4,v5,v6])))
   (x1k v0 v1 v2 v3 v4 v5 v6)) v
def Qhl:GM
 | [.one a0,.one a1,.one a2,.one a3],k =>
  call Qbn [.one a2,.one (I 1),.one (I 12)] fun o0 =>
  unP .not (atP o0 0) fun r1 =>
  iteP r1
   (rt [.sc,.sc] [(I 0),(.bool false)] k)
   (binP .sub a2 (I 1) fun r2 =>
   call Qbn [.one a1,.one (I 0),.one r2] fun o3 =>
   unP .not (atP o3 0) fun r4 =>
   iteP r4
    (rt [.sc,.sc] [(I 0),(.bool false)] k)
    (lp (fun L w=>Qhl_r0 w L
     (rt [.sc,.sc] [(I 0),(.bool false)] k)
     (fun q40 q41 q42 q43 q44 q45 q46=>lenP q43 fun r47 =>
      binP .neq q46 r47 fun r48 =>
      iteP r48
       (rt [.sc,.sc] [(I 0),(.bool false)] k)
       (rt [.sc,.sc] [q40,(.bool true)] k))) [a0,a1,a2,a3,(I 0),(.bool false),(I 0)]))
 | _,_=>False
abbrev Qhl_e:Ent:=⟨[351],Qhl⟩
def Qhl_l:List LE:=[⟨none,0,⟨[(0,.one zB),(1,.one zB),(2,.one zB),(3,.one zB),(8,.one zB),(9,.one zB),(10,.one zB)],[],[],2,63,[]⟩,fun K k v=>Qhl_r0 v K (k .ret ⟨[(8,.one (.pv (I 0))),(9,.one (.kb false))],[],[],2,63,[]⟩) (fun x0 x1 x2 x3 x4 x5 x6=>k (.exit 0) ⟨[(0,.one (.pv x0)),(1,.one (.pv x1)),(2,.one (.pv x2)),(3,.one (.pv x3)),(8,.one (.pv x4)),(9,.one (.pv x5)),(10,.one (.pv x6))],[],[],2,63,[]⟩)⟩]
theorem Qhl_s:LEsOK [Qbn_e,Qcy_e] TT (kk [0,1,2,3,8,9,10,27,28,29,30,999999]) Qhl_l Tryz.f351 Qhl_l:=⟨fun v K k h=>by
 apply un_all h;exact fun v0 v1 v2 v3 v4 v5 v6 h=>km h
 ,trivial⟩
theorem Qhl_w:EntOK Tryz.prog TT Qhl_e:=ok_ tabok (L:=[Qbn_e,Qcy_e]) ⟨Qbn_w,Qcy_w,trivial⟩ (keep:=(kk [0,1,2,3,8,9,10,27,28,29,30,999999])) (l:=Qhl_l) Tryz.func351 Qhl_s fun av k h=>by
 unfold Qhl at h;split at h
 ·exact km h
 ·exact h.elim
def Qhm:GM
 | [.one a0,.one a1,.agg u0,.agg u1],k=>un 4 (fun a2 a3 a4 a5=>un 2 (fun a6 a7 =>
  call Qcw [.agg [a2,a3,a4,a5]] fun o0 =>
  call Qhl [.one (atP o0 0),.one a6,.one a1,.one a7] fun o1 =>
  call Qcq [.agg [a2,a3,a4,a5]] fun o2 =>
  iteP (atP o2 0)
   (iteP (atP o1 1)
    (call Qdb [.one a1,.one (atP o1 0)] fun o3 =>
    binP .eql (atP o3 0) a0 fun r4 =>
    rt [.sc] [r4] k)
    (rt [.sc] [(.bool false)] k))
   (rt [.sc] [(.bool false)] k)) u1) u0
 | _,_=>False
abbrev Qhm_e:Ent:=⟨[300],Qhm⟩
theorem Qhm_w:EntOK Tryz.prog TT Qhm_e:=ok_ tabok (L:=[Qcw_e,Qhl_e,Qcq_e,Qdb_e]) ⟨Qcw_w,Qhl_w,Qcq_w,Qdb_w,trivial⟩ (keep:=[]) (l:=[]) Tryz.func300 trivial fun av k h=>by
 unfold Qhm at h;split at h
 ·apply un_all h;clear h;intro a2 a3 a4 a5 h;apply un_all h;clear h;intro a6 a7 h;exact km h
 ·exact h.elim
def Qhn_r0 (v:List PV) (K:List PV→Prop) (x0k:Prop) (x1k:PV→PV→PV→PV→Prop):Prop :=
 un 4 (fun v0 v1 v2 v3 =>
  lenP v0 fun r0 =>
  binP .lss v3 r0 fun r1 =>
  iteP r1
   (elemP 1 v0 v3 fun c2 =>
   elemP 1 v1 v3 fun c3 =>
   binP .neq (atP c2 0) (atP c3 0) fun r4 =>
   iteP r4
    (x0k)
    (binP .add v3 (I 1) fun r5 =>
    K [v0,v1,v2,r5]))
   (x1k v0 v1 v2 v3)) v
def Qhn:GM
 | [.one a0,.one a1],k =>
  lenP a0 fun r0 =>
  lenP a1 fun r1 =>
  binP .neq r0 r1 fun r2 =>
  iteP r2
   (rt [.sc] [(.bool false)] k)
   (lp (fun L w=>Qhn_r0 w L
    (rt [.sc] [(.bool false)] k)
    (fun q6 q7 q8 q9=>rt [.sc] [(.bool true)] k)) [a0,a1,(.bool false),(I 0)])
 | _,_=>False
abbrev Qhn_e:Ent:=⟨[400],Qhn⟩
def Qhn_l:List LE:=[⟨none,0,⟨[(0,.one zB),(1,.one zB),(4,.one zB),(5,.one zB)],[],[],0,26,[]⟩,fun K k v=>Qhn_r0 v K (k .ret ⟨[(4,.one (.kb false))],[],[],0,26,[]⟩) (fun x0 x1 x2 x3=>k (.exit 0) ⟨[(0,.one (.pv x0)),(1,.one (.pv x1)),(4,.one (.pv x2)),(5,.one (.pv x3))],[],[],0,26,[]⟩)⟩]
theorem Qhn_s:LEsOK [] TT (kk [0,1,4,5,999999]) Qhn_l Tryz.f400 Qhn_l:=⟨fun v K k h=>by
 apply un_all h;exact fun v0 v1 v2 v3 h=>km h
 ,trivial⟩
theorem Qhn_w:EntOK Tryz.prog TT Qhn_e:=ok_ tabok (L:=[]) trivial (keep:=(kk [0,1,4,5,999999])) (l:=Qhn_l) Tryz.func400 Qhn_s fun av k h=>by
 unfold Qhn at h;split at h
 ·exact km h
 ·exact h.elim
def Qho:GM
 | [.agg u0,.agg u1],k=>un 4 (fun a0 a1 a2 a3=>un 4 (fun a4 a5 a6 a7 =>
  binP .eql a0 a4 fun r0 =>
  iteP r0
   (binP .eql a1 a5 fun r1 =>
   iteP r1
    (binP .eql a2 a6 fun r2 =>
    iteP r2
     (call Qhn [.one a3,.one a7] fun o3 =>
     rt [.sc] [(atP o3 0)] k)
     (rt [.sc] [(.bool false)] k))
    (rt [.sc] [(.bool false)] k))
   (rt [.sc] [(.bool false)] k)) u1) u0
 | _,_=>False
abbrev Qho_e:Ent:=⟨[353],Qho⟩
theorem Qho_w:EntOK Tryz.prog TT Qho_e:=ok_ tabok (L:=[Qhn_e]) ⟨Qhn_w,trivial⟩ (keep:=[]) (l:=[]) Tryz.func353 trivial fun av k h=>by
 unfold Qho at h;split at h
 ·apply un_all h;clear h;intro a0 a1 a2 a3 h;apply un_all h;clear h;intro a4 a5 a6 a7 h;exact km h
 ·exact h.elim
def Qhp:GM
 | [.agg u0,.agg u1],k=>un 2 (fun a0 a1=>un 2 (fun a2 a3 =>
  binP .eql a0 a2 fun r0 =>
  iteP r0
   (call Qce [.one a1,.one a3] fun o1 =>
   rt [.sc] [(atP o1 0)] k)
   (rt [.sc] [(.bool false)] k)) u1) u0
 | _,_=>False
abbrev Qhp_e:Ent:=⟨[354],Qhp⟩
theorem Qhp_w:EntOK Tryz.prog TT Qhp_e:=ok_ tabok (L:=[Qce_e]) ⟨Qce_w,trivial⟩ (keep:=[]) (l:=[]) Tryz.func354 trivial fun av k h=>by
 unfold Qhp at h;split at h
 ·apply un_all h;clear h;intro a0 a1 h;apply un_all h;clear h;intro a2 a3 h;exact km h
 ·exact h.elim
def Qhq:GM
 | [.agg u0,.agg u1],k=>un 13 (fun a0 a1 a2 a3 a4 a5 a6 a7 a8 a9 a10 a11 a12=>un 13 (fun a13 a14 a15 a16 a17 a18 a19 a20 a21 a22 a23 a24 a25 =>
  binP .eql a0 a13 fun r0 =>
  iteP r0
   (call Qho [.agg [a1,a2,a3,a4],.agg [a14,a15,a16,a17]] fun o1 =>
   iteP (atP o1 0)
    (call Qho [.agg [a5,a6,a7,a8],.agg [a18,a19,a20,a21]] fun o2 =>
    iteP (atP o2 0)
     (call Qhp [.agg [a9,a10],.agg [a22,a23]] fun o3 =>
     iteP (atP o3 0)
      (call Qhp [.agg [a11,a12],.agg [a24,a25]] fun o4 =>
      rt [.sc] [(atP o4 0)] k)
      (rt [.sc] [(.bool false)] k))
     (rt [.sc] [(.bool false)] k))
    (rt [.sc] [(.bool false)] k))
   (rt [.sc] [(.bool false)] k)) u1) u0
 | _,_=>False
abbrev Qhq_e:Ent:=⟨[301],Qhq⟩
theorem Qhq_w:EntOK Tryz.prog TT Qhq_e:=ok_ tabok (L:=[Qho_e,Qhp_e]) ⟨Qho_w,Qhp_w,trivial⟩ (keep:=[]) (l:=[]) Tryz.func301 trivial fun av k h=>by
 unfold Qhq at h;split at h
 ·apply un_all h;clear h;intro a0 a1 a2 a3 a4 a5 a6 a7 a8 a9 a10 a11 a12 h;apply un_all h;clear h;intro a13 a14 a15 a16 a17 a18 a19 a20 a21 a22 a23 a24 a25 h;exact km h
 ·exact h.elim
def Qhr:GM
 | [.agg u0,.agg u1],k=>un 4 (fun a0 a1 a2 a3=>un 2 (fun a4 a5 =>
  call Qho [.agg [a0,a1,a2,a3],.agg [(.str ⟨#[]⟩),(I 0),(I 0),(.list 1 [])]] fun o0 =>
  iteP (atP o0 0)
   (call Qhp [.agg [a4,a5],.agg [(I 0),(.list 1 [])]] fun o1 =>
   rt [.sc] [(atP o1 0)] k)
   (rt [.sc] [(.bool false)] k)) u1) u0
 | _,_=>False
abbrev Qhr_e:Ent:=⟨[303],Qhr⟩
theorem Qhr_w:EntOK Tryz.prog TT Qhr_e:=ok_ tabok (L:=[Qho_e,Qhp_e]) ⟨Qho_w,Qhp_w,trivial⟩ (keep:=[]) (l:=[]) Tryz.func303 trivial fun av k h=>by
 unfold Qhr at h;split at h
 ·apply un_all h;clear h;intro a0 a1 a2 a3 h;apply un_all h;clear h;intro a4 a5 h;exact km h
 ·exact h.elim
def Qhs:GM
 | [.one a0,.one a1,.one a2,.agg u0],k=>un 13 (fun a3 a4 a5 a6 a7 a8 a9 a10 a11 a12 a13 a14 a15 =>
  call Qco [.one a2] fun o0 =>
  unP .not (atP o0 0) fun r1 =>
  iteP r1
   (rt [.sc] [(.bool false)] k)
   (call Qbn [.one a3,.one (I 0),.one a1] fun o2 =>
   unP .not (atP o2 0) fun r3 =>
   iteP r3
    (rt [.sc] [(.bool false)] k)
    (binP .eql a1 (I 0) fun r4 =>
    iteP r4
     ((0=0)∧(0≤16777216)∧(4=4)∧call Qdc [.one (.list 4 [])] fun o5 =>
     binP .neq a0 (atP o5 0) fun r6 =>
     iteP r6
      (rt [.sc] [(.bool false)] k)
      (binP .eql a3 (I 0) fun r7 =>
      iteP r7
       (call Qhr [.agg [a4,a5,a6,a7],.agg [a12,a13]] fun o8 =>
       unP .not (atP o8 0) fun r9 =>
       iteP r9
        (rt [.sc] [(.bool false)] k)
        (binP .eql a3 a1 fun r10 =>
        iteP r10
         (call Qhr [.agg [a8,a9,a10,a11],.agg [a14,a15]] fun o11 =>
         rt [.sc] [(atP o11 0)] k)
         (call Qhm [.one a0,.one a1,.agg [a8,a9,a10,a11],.agg [a14,a15]] fun o12 =>
         iteP (atP o12 0)
          (binP .eql a14 a3 fun r13 =>
          iteP r13
           (call Qcr [.one a8,.one a2] fun o14 =>
           binP .eql (atP o14 0) (I 1) fun r15 =>
           rt [.sc] [r15] k)
           (rt [.sc] [(.bool false)] k))
          (rt [.sc] [(.bool false)] k))))
       (call Qhm [.one a0,.one a1,.agg [a4,a5,a6,a7],.agg [a12,a13]] fun o16 =>
       unP .not (atP o16 0) fun r17 =>
       iteP r17
        (rt [.sc] [(.bool false)] k)
        (binP .sub a3 (I 1) fun r18 =>
        binP .neq a12 r18 fun r19 =>
        iteP r19
         (rt [.sc] [(.bool false)] k)
         (call Qcr [.one a4,.one a2] fun o20 =>
         binP .neq (atP o20 0) (I (-1)) fun r21 =>
         iteP r21
          (rt [.sc] [(.bool false)] k)
          (binP .eql a3 a1 fun r22 =>
          iteP r22
           (call Qhr [.agg [a8,a9,a10,a11],.agg [a14,a15]] fun o23 =>
           rt [.sc] [(atP o23 0)] k)
           (call Qhm [.one a0,.one a1,.agg [a8,a9,a10,a11],.agg [a14,a15]] fun o24 =>
           iteP (atP o24 0)
            (binP .eql a14 a3 fun r25 =>
            iteP r25
             (call Qcr [.one a8,.one a2] fun o26 =>
             binP .eql (atP o26 0) (I 1) fun r27 =>
             rt [.sc] [r27] k)
             (rt [.sc] [(.bool false)] k))
            (rt [.sc] [(.bool false)] k))))))))
     (binP .eql a3 (I 0) fun r28 =>
     iteP r28
      (call Qhr [.agg [a4,a5,a6,a7],.agg [a12,a13]] fun o29 =>
      unP .not (atP o29 0) fun r30 =>
      iteP r30
       (rt [.sc] [(.bool false)] k)
       (binP .eql a3 a1 fun r31 =>
       iteP r31
        (call Qhr [.agg [a8,a9,a10,a11],.agg [a14,a15]] fun o32 =>
        rt [.sc] [(atP o32 0)] k)
        (call Qhm [.one a0,.one a1,.agg [a8,a9,a10,a11],.agg [a14,a15]] fun o33 =>
        iteP (atP o33 0)
         (binP .eql a14 a3 fun r34 =>
         iteP r34
          (call Qcr [.one a8,.one a2] fun o35 =>
          binP .eql (atP o35 0) (I 1) fun r36 =>
          rt [.sc] [r36] k)
          (rt [.sc] [(.bool false)] k))
         (rt [.sc] [(.bool false)] k))))
      (call Qhm [.one a0,.one a1,.agg [a4,a5,a6,a7],.agg [a12,a13]] fun o37 =>
      unP .not (atP o37 0) fun r38 =>
      iteP r38
       (rt [.sc] [(.bool false)] k)
       (binP .sub a3 (I 1) fun r39 =>
       binP .neq a12 r39 fun r40 =>
       iteP r40
        (rt [.sc] [(.bool false)] k)
        (call Qcr [.one a4,.one a2] fun o41 =>
        binP .neq (atP o41 0) (I (-1)) fun r42 =>
        iteP r42
         (rt [.sc] [(.bool false)] k)
         (binP .eql a3 a1 fun r43 =>
         iteP r43
          (call Qhr [.agg [a8,a9,a10,a11],.agg [a14,a15]] fun o44 =>
          rt [.sc] [(atP o44 0)] k)
          (call Qhm [.one a0,.one a1,.agg [a8,a9,a10,a11],.agg [a14,a15]] fun o45 =>
          iteP (atP o45 0)
           (binP .eql a14 a3 fun r46 =>
           iteP r46
            (call Qcr [.one a8,.one a2] fun o47 =>
            binP .eql (atP o47 0) (I 1) fun r48 =>
            rt [.sc] [r48] k)
            (rt [.sc] [(.bool false)] k))
           (rt [.sc] [(.bool false)] k)))))))))) u0
 | _,_=>False
abbrev Qhs_e:Ent:=⟨[302],Qhs⟩
theorem Qhs_w:EntOK Tryz.prog TT Qhs_e:=ok_ tabok (L:=[Qco_e,Qbn_e,Qdc_e,Qhr_e,Qhm_e,Qcr_e]) ⟨Qco_w,Qbn_w,Qdc_w,Qhr_w,Qhm_w,Qcr_w,trivial⟩ (keep:=[]) (l:=[]) Tryz.func302 trivial fun av k h=>by
 unfold Qhs at h;split at h
 ·apply un_all h;clear h;intro a3 a4 a5 a6 a7 a8 a9 a10 a11 a12 a13 a14 a15 h;exact km h
 ·exact h.elim
def Qht:GM
 | [.agg u0,.one a16,.agg u1],k=>un 16 (fun a0 a1 a2 a3 a4 a5 a6 a7 a8 a9 a10 a11 a12 a13 a14 a15=>un 21 (fun a17 a18 a19 a20 a21 a22 a23 a24 a25 a26 a27 a28 a29 a30 a31 a32 a33 a34 a35 a36 a37 =>
  iteP a18
   (binP .eql a19 a16 fun r0 =>
   iteP r0
    (call Qhm [.one a6,.one a5,.agg [a19,a20,a21,a22],.agg [a23,a24]] fun o1 =>
    iteP (atP o1 0)
     (call Qhq [.agg [a25,a26,a27,a28,a29,a30,a31,a32,a33,a34,a35,a36,a37],.agg [(I 0),(.str ⟨#[]⟩),(I 0),(I 0),(.list 1 []),(.str ⟨#[]⟩),(I 0),(I 0),(.list 1 []),(I 0),(.list 1 []),(I 0),(.list 1 [])]] fun o2 =>
     rt [.sc] [(atP o2 0)] k)
     (rt [.sc] [(.bool false)] k))
    (rt [.sc] [(.bool false)] k))
   (call Qhs [.one a6,.one a5,.one a16,.agg [a25,a26,a27,a28,a29,a30,a31,a32,a33,a34,a35,a36,a37]] fun o3 =>
   iteP (atP o3 0)
    (call Qhr [.agg [a19,a20,a21,a22],.agg [a23,a24]] fun o4 =>
    rt [.sc] [(atP o4 0)] k)
    (rt [.sc] [(.bool false)] k))) u1) u0
 | _,_=>False
abbrev Qht_e:Ent:=⟨[243],Qht⟩
theorem Qht_w:EntOK Tryz.prog TT Qht_e:=ok_ tabok (L:=[Qhm_e,Qhq_e,Qhs_e,Qhr_e]) ⟨Qhm_w,Qhq_w,Qhs_w,Qhr_w,trivial⟩ (keep:=[]) (l:=[]) Tryz.func243 trivial fun av k h=>by
 unfold Qht at h;split at h
 ·apply un_all h;clear h;intro a0 a1 a2 a3 a4 a5 a6 a7 a8 a9 a10 a11 a12 a13 a14 a15 h;apply un_all h;clear h;intro a17 a18 a19 a20 a21 a22 a23 a24 a25 a26 a27 a28 a29 a30 a31 a32 a33 a34 a35 a36 a37 h;exact km h
 ·exact h.elim
def Qhu:GM
 | [.one a0,.one a1,.agg u0,.one a23],k=>un 21 (fun a2 a3 a4 a5 a6 a7 a8 a9 a10 a11 a12 a13 a14 a15 a16 a17 a18 a19 a20 a21 a22 =>
  call Qcn [.one a2] fun o0 =>
  unP .not (atP o0 16) fun r1 =>
  iteP r1
   (rt [.sc] [(I 3)] k)
   (binP .neq (atP o0 0) a0 fun r2 =>
   iteP r2
    (rt [.sc] [(I 2)] k)
    (call Qhk [.agg [(atP o0 0),(atP o0 1),(atP o0 2),(atP o0 3),(atP o0 4),(atP o0 5),(atP o0 6),(atP o0 7),(atP o0 8),(atP o0 9),(atP o0 10),(atP o0 11),(atP o0 12),(atP o0 13),(atP o0 14),(atP o0 15)],.one a23] fun o3 =>
    unP .not (atP o3 0) fun r4 =>
    iteP r4
     (rt [.sc] [(I 4)] k)
     (iteP (atP o0 15)
      (rt [.sc] [(I 5)] k)
      (call Qht [.agg [(atP o0 0),(atP o0 1),(atP o0 2),(atP o0 3),(atP o0 4),(atP o0 5),(atP o0 6),(atP o0 7),(atP o0 8),(atP o0 9),(atP o0 10),(atP o0 11),(atP o0 12),(atP o0 13),(atP o0 14),(atP o0 15)],.one a1,.agg [a2,a3,a4,a5,a6,a7,a8,a9,a10,a11,a12,a13,a14,a15,a16,a17,a18,a19,a20,a21,a22]] fun o5 =>
      unP .not (atP o5 0) fun r6 =>
      iteP r6
       (rt [.sc] [(I 6)] k)
       (rt [.sc] [(I 1)] k)))))) u0
 | _,_=>False
abbrev Qhu_e:Ent:=⟨[173],Qhu⟩
theorem Qhu_w:EntOK Tryz.prog TT Qhu_e:=ok_ tabok (L:=[Qcn_e,Qhk_e,Qht_e]) ⟨Qcn_w,Qhk_w,Qht_w,trivial⟩ (keep:=[]) (l:=[]) Tryz.func173 trivial fun av k h=>by
 unfold Qhu at h;split at h
 ·apply un_all h;clear h;intro a2 a3 a4 a5 a6 a7 a8 a9 a10 a11 a12 a13 a14 a15 a16 a17 a18 a19 a20 a21 a22 h;exact km h
 ·exact h.elim
def Qhv_r0 (v:List PV) (K:List PV→Prop) (x0k:Prop) (x1k:PV→PV→PV→PV→PV→PV→PV→PV→PV→PV→PV→PV→PV→PV→PV→PV→PV→PV→PV→PV→PV→PV→PV→PV→PV→PV→PV→PV→PV→PV→PV→PV→PV→PV→PV→PV→Prop):Prop :=
 un 36 (fun v0 v1 v2 v3 v4 v5 v6 v7 v8 v9 v10 v11 v12 v13 v14 v15 v16 v17 v18 v19 v20 v21 v22 v23 v24 v25 v26 v27 v28 v29 v30 v31 v32 v33 v34 v35 =>
  lenP v35 fun r0 =>
  binP .lss v1 r0 fun r1 =>
  iteP r1
   (elemP 2 v35 v1 fun c2 =>
   elemP 2 v18 v1 fun c3 =>
   (kindsP [.pv (I 0),.pv (I 0)] [(atP c2 0),(atP c2 1)])∧(kindsP [.pv (I 0),.pv (I 0)] [(atP c3 0),(atP c3 1)])∧aggP .neq [(atP c2 0),(atP c2 1)] [(atP c3 0),(atP c3 1)] fun r4 =>
   iteP r4
    (x0k)
    (binP .add v1 (I 1) fun r5 =>
    K [v0,r5,v2,v3,v4,v5,v6,v7,v8,v9,v10,v11,v12,v13,v14,v15,v16,v17,v18,v19,v20,v21,v22,v23,v24,v25,v26,v27,v28,v29,v30,v31,v32,v33,v34,v35]))
   (x1k v0 v1 v2 v3 v4 v5 v6 v7 v8 v9 v10 v11 v12 v13 v14 v15 v16 v17 v18 v19 v20 v21 v22 v23 v24 v25 v26 v27 v28 v29 v30 v31 v32 v33 v34 v35)) v
def Qhv:GM
 | [.agg u0,.agg u1],k=>un 17 (fun a0 a1 a2 a3 a4 a5 a6 a7 a8 a9 a10 a11 a12 a13 a14 a15 a16=>un 17 (fun a17 a18 a19 a20 a21 a22 a23 a24 a25 a26 a27 a28 a29 a30 a31 a32 a33 =>
  call Qhf [.agg [a0,a1,a2,a3,a4,a5,a6,a7,a8,a9,a10,a11,a12,a13,a14,a15],.agg [a17,a18,a19,a20,a21,a22,a23,a24,a25,a26,a27,a28,a29,a30,a31,a32]] fun o0 =>
  unP .not (atP o0 0) fun r1 =>
  iteP r1
   (rt [.sc] [(.bool false)] k)
   (lenP a16 fun r2 =>
   lenP a33 fun r3 =>
   binP .neq r2 r3 fun r4 =>
   iteP r4
    (rt [.sc] [(.bool false)] k)
    (lp (fun L w=>Qhv_r0 w L
     (rt [.sc] [(.bool false)] k)
     (fun q6 q7 q8 q9 q10 q11 q12 q13 q14 q15 q16 q17 q18 q19 q20 q21 q22 q23 q24 q25 q26 q27 q28 q29 q30 q31 q32 q33 q34 q35 q36 q37 q38 q39 q40 q41=>rt [.sc] [(.bool true)] k)) [(.bool false),(I 0),a17,a18,a19,a20,a21,a22,a23,a24,a25,a26,a27,a28,a29,a30,a31,a32,a33,a0,a1,a2,a3,a4,a5,a6,a7,a8,a9,a10,a11,a12,a13,a14,a15,a16]))) u1) u0
 | _,_=>False
abbrev Qhv_e:Ent:=⟨[355],Qhv⟩
def Qhv_l:List LE:=[⟨none,0,⟨[(2,.one (.ptr 0 0)),(3,.one (.ptr 1 0)),(4,.one zB),(5,.one zB)],[(1,[zB,zB,zB,zB,zB,zB,zB,zB,zB,zB,zB,zB,zB,zB,zB,zB,zB]),(0,[zB,zB,zB,zB,zB,zB,zB,zB,zB,zB,zB,zB,zB,zB,zB,zB,zB])],[],3,39,[]⟩,fun K k v=>Qhv_r0 v K (k .ret ⟨[(4,.one (.kb false))],[],[],3,39,[]⟩) (fun x0 x1 x2 x3 x4 x5 x6 x7 x8 x9 x10 x11 x12 x13 x14 x15 x16 x17 x18 x19 x20 x21 x22 x23 x24 x25 x26 x27 x28 x29 x30 x31 x32 x33 x34 x35=>k (.exit 0) ⟨[(2,.one (.ptr 0 0)),(3,.one (.ptr 1 0)),(4,.one (.pv x0)),(5,.one (.pv x1))],[(1,[.pv x2,.pv x3,.pv x4,.pv x5,.pv x6,.pv x7,.pv x8,.pv x9,.pv x10,.pv x11,.pv x12,.pv x13,.pv x14,.pv x15,.pv x16,.pv x17,.pv x18]),(0,[.pv x19,.pv x20,.pv x21,.pv x22,.pv x23,.pv x24,.pv x25,.pv x26,.pv x27,.pv x28,.pv x29,.pv x30,.pv x31,.pv x32,.pv x33,.pv x34,.pv x35])],[],3,39,[]⟩)⟩]
theorem Qhv_s:LEsOK [Qhf_e] TT (kk [2,3,4,5,999999]) Qhv_l Tryz.f355 Qhv_l:=⟨fun v K k h=>by
 apply un_all h;exact fun v0 v1 v2 v3 v4 v5 v6 v7 v8 v9 v10 v11 v12 v13 v14 v15 v16 v17 v18 v19 v20 v21 v22 v23 v24 v25 v26 v27 v28 v29 v30 v31 v32 v33 v34 v35 h=>km h
 ,trivial⟩
theorem Qhv_w:EntOK Tryz.prog TT Qhv_e:=ok_ tabok (L:=[Qhf_e]) ⟨Qhf_w,trivial⟩ (keep:=(kk [2,3,4,5,999999])) (l:=Qhv_l) Tryz.func355 Qhv_s fun av k h=>by
 unfold Qhv at h;split at h
 ·apply un_all h;clear h;intro a0 a1 a2 a3 a4 a5 a6 a7 a8 a9 a10 a11 a12 a13 a14 a15 a16 h;apply un_all h;clear h;intro a17 a18 a19 a20 a21 a22 a23 a24 a25 a26 a27 a28 a29 a30 a31 a32 a33 h;exact km h
 ·exact h.elim
def Qhw:GM
 | [.agg u0],k=>un 51 (fun a0 a1 a2 a3 a4 a5 a6 a7 a8 a9 a10 a11 a12 a13 a14 a15 a16 a17 a18 a19 a20 a21 a22 a23 a24 a25 a26 a27 a28 a29 a30 a31 a32 a33 a34 a35 a36 a37 a38 a39 a40 a41 a42 a43 a44 a45 a46 a47 a48 a49 a50 =>
  call Qhf [.agg [a17,a18,a19,a20,a21,a22,a23,a24,a25,a26,a27,a28,a29,a30,a31,a32],.agg [a34,a35,a36,a37,a38,a39,a40,a41,a42,a43,a44,a45,a46,a47,a48,a49]] fun o0 =>
  iteP (atP o0 0)
   (rt [.sc] [(.bool false)] k)
   (call Qhv [.agg [a0,a1,a2,a3,a4,a5,a6,a7,a8,a9,a10,a11,a12,a13,a14,a15,a16],.agg [(I 0),(I 0),(I 0),(I 0),(I 0),(I 0),(I 0),(I 0),(.list 1 []),(I 0),(.list 1 []),(I 0),(I 0),(.list 1 []),(I 0),(.bool false),(.list 2 [])]] fun o1 =>
   iteP (atP o1 0)
    (call Qcb [.agg [a17,a18,a19,a20,a21,a22,a23,a24,a25,a26,a27,a28,a29,a30,a31,a32,a33]] fun o2 =>
    iteP (atP o2 0)
     (call Qcb [.agg [a34,a35,a36,a37,a38,a39,a40,a41,a42,a43,a44,a45,a46,a47,a48,a49,a50]] fun o3 =>
     iteP (atP o3 0)
      (binP .eql a17 a34 fun r4 =>
      rt [.sc] [r4] k)
      (rt [.sc] [(.bool false)] k))
     (rt [.sc] [(.bool false)] k))
    (call Qck [.agg [a0,a1,a2,a3,a4,a5,a6,a7,a8,a9,a10,a11,a12,a13,a14,a15],.agg [a17,a18,a19,a20,a21,a22,a23,a24,a25,a26,a27,a28,a29,a30,a31,a32,a33]] fun o5 =>
    iteP (atP o5 0)
     (call Qck [.agg [a0,a1,a2,a3,a4,a5,a6,a7,a8,a9,a10,a11,a12,a13,a14,a15],.agg [a34,a35,a36,a37,a38,a39,a40,a41,a42,a43,a44,a45,a46,a47,a48,a49,a50]] fun o6 =>
     rt [.sc] [(atP o6 0)] k)
     (rt [.sc] [(.bool false)] k)))) u0
 | _,_=>False
abbrev Qhw_e:Ent:=⟨[304],Qhw⟩
theorem Qhw_w:EntOK Tryz.prog TT Qhw_e:=ok_ tabok (L:=[Qhf_e,Qhv_e,Qcb_e,Qck_e]) ⟨Qhf_w,Qhv_w,Qcb_w,Qck_w,trivial⟩ (keep:=[]) (l:=[]) Tryz.func304 trivial fun av k h=>by
 unfold Qhw at h;split at h
 ·apply un_all h;clear h;intro a0 a1 a2 a3 a4 a5 a6 a7 a8 a9 a10 a11 a12 a13 a14 a15 a16 a17 a18 a19 a20 a21 a22 a23 a24 a25 a26 a27 a28 a29 a30 a31 a32 a33 a34 a35 a36 a37 a38 a39 a40 a41 a42 a43 a44 a45 a46 a47 a48 a49 a50 h;exact km h
 ·exact h.elim
def Qhx:GM
 | [.agg u0],k=>un 51 (fun a0 a1 a2 a3 a4 a5 a6 a7 a8 a9 a10 a11 a12 a13 a14 a15 a16 a17 a18 a19 a20 a21 a22 a23 a24 a25 a26 a27 a28 a29 a30 a31 a32 a33 a34 a35 a36 a37 a38 a39 a40 a41 a42 a43 a44 a45 a46 a47 a48 a49 a50 =>
  call Qhw [.agg [a0,a1,a2,a3,a4,a5,a6,a7,a8,a9,a10,a11,a12,a13,a14,a15,a16,a17,a18,a19,a20,a21,a22,a23,a24,a25,a26,a27,a28,a29,a30,a31,a32,a33,a34,a35,a36,a37,a38,a39,a40,a41,a42,a43,a44,a45,a46,a47,a48,a49,a50]] fun o0 =>
  unP .not (atP o0 0) fun r1 =>
  iteP r1
   (rt [.sc] [(I (-1))] k)
   (rt [.sc] [a17] k)) u0
 | _,_=>False
abbrev Qhx_e:Ent:=⟨[244],Qhx⟩
theorem Qhx_w:EntOK Tryz.prog TT Qhx_e:=ok_ tabok (L:=[Qhw_e]) ⟨Qhw_w,trivial⟩ (keep:=[]) (l:=[]) Tryz.func244 trivial fun av k h=>by
 unfold Qhx at h;split at h
 ·apply un_all h;clear h;intro a0 a1 a2 a3 a4 a5 a6 a7 a8 a9 a10 a11 a12 a13 a14 a15 a16 a17 a18 a19 a20 a21 a22 a23 a24 a25 a26 a27 a28 a29 a30 a31 a32 a33 a34 a35 a36 a37 a38 a39 a40 a41 a42 a43 a44 a45 a46 a47 a48 a49 a50 h;exact km h
 ·exact h.elim
def Qhy_r0 (v:List PV) (K:List PV→Prop) (x0k:Prop) (x1k:PV→PV→PV→PV→PV→Prop):Prop :=
 un 5 (fun v0 v1 v2 v3 v4 =>
  lenP v4 fun r0 =>
  binP .lss v2 r0 fun r1 =>
  iteP r1
   (elemP 51 v4 v2 fun c2 =>
   call Qhx [.agg [(atP c2 0),(atP c2 1),(atP c2 2),(atP c2 3),(atP c2 4),(atP c2 5),(atP c2 6),(atP c2 7),(atP c2 8),(atP c2 9),(atP c2 10),(atP c2 11),(atP c2 12),(atP c2 13),(atP c2 14),(atP c2 15),(atP c2 16),(atP c2 17),(atP c2 18),(atP c2 19),(atP c2 20),(atP c2 21),(atP c2 22),(atP c2 23),(atP c2 24),(atP c2 25),(atP c2 26),(atP c2 27),(atP c2 28),(atP c2 29),(atP c2 30),(atP c2 31),(atP c2 32),(atP c2 33),(atP c2 34),(atP c2 35),(atP c2 36),(atP c2 37),(atP c2 38),(atP c2 39),(atP c2 40),(atP c2 41),(atP c2 42),(atP c2 43),(atP c2 44),(atP c2 45),(atP c2 46),(atP c2 47),(atP c2 48),(atP c2 49),(atP c2 50)]] fun o3 =>
   binP .eql (atP o3 0) v0 fun r4 =>
   iteP r4
    (binP .geq v0 (I 0) fun r5 =>
    iteP r5
     (x0k)
     (binP .add v2 (I 1) fun r6 =>
     K [v0,v1,r6,v3,v4]))
    (binP .add v2 (I 1) fun r7 =>
    K [v0,v1,r7,v3,v4]))
   (x1k v0 v1 v2 v3 v4)) v
def Qhy:GM
 | [.agg u0,.one a2],k=>un 2 (fun a0 a1 =>
  lp (fun L w=>Qhy_r0 w L
   (rt [.sc] [(.bool true)] k)
   (fun q8 q9 q10 q11 q12=>rt [.sc] [(.bool false)] k)) [a2,(.bool false),(I 0),a0,a1]) u0
 | _,_=>False
abbrev Qhy_e:Ent:=⟨[174],Qhy⟩
def Qhy_l:List LE:=[⟨none,0,⟨[(1,.one zB),(2,.one (.ptr 0 0)),(4,.one zB),(5,.one zB)],[(0,[zB,zB])],[],1,25,[]⟩,fun K k v=>Qhy_r0 v K (k .ret ⟨[(4,.one (.kb true))],[],[],2,25,[]⟩) (fun x0 x1 x2 x3 x4=>k (.exit 0) ⟨[(1,.one (.pv x0)),(2,.one (.ptr 0 0)),(4,.one (.pv x1)),(5,.one (.pv x2))],[(0,[.pv x3,.pv x4])],[],1,25,[]⟩)⟩]
theorem Qhy_s:LEsOK [Qhx_e] TT (kk [1,2,4,5,22,23,999999]) Qhy_l Tryz.f174 Qhy_l:=⟨fun v K k h=>by
 apply un_all h;exact fun v0 v1 v2 v3 v4 h=>km h
 ,trivial⟩
theorem Qhy_w:EntOK Tryz.prog TT Qhy_e:=ok_ tabok (L:=[Qhx_e]) ⟨Qhx_w,trivial⟩ (keep:=(kk [1,2,4,5,22,23,999999])) (l:=Qhy_l) Tryz.func174 Qhy_s fun av k h=>by
 unfold Qhy at h;split at h
 ·apply un_all h;clear h;intro a0 a1 h;exact km h
 ·exact h.elim
def Qhz_r0 (v:List PV) (K:List PV→Prop) (x0k:PV→PV→PV→PV→PV→PV→PV→PV→PV→PV→PV→PV→PV→PV→PV→PV→PV→Prop) (x1k:PV→PV→PV→PV→PV→PV→PV→PV→PV→PV→PV→PV→PV→PV→PV→PV→PV→Prop) (x2k:PV→PV→PV→PV→PV→PV→PV→PV→PV→PV→PV→PV→PV→PV→PV→PV→PV→Prop) (x3k:PV→PV→PV→PV→PV→PV→PV→PV→PV→PV→PV→PV→PV→PV→PV→PV→PV→Prop) (x4k:PV→PV→PV→PV→PV→PV→PV→PV→PV→PV→PV→PV→PV→PV→PV→PV→PV→PV→PV→PV→PV→PV→PV→Prop):Prop :=
 un 23 (fun v0 v1 v2 v3 v4 v5 v6 v7 v8 v9 v10 v11 v12 v13 v14 v15 v16 v17 v18 v19 v20 v21 v22 =>
  lenP v0 fun r0 =>
  binP .lss v4 r0 fun r1 =>
  iteP r1
   (elemP 21 v0 v4 fun c2 =>
   call Qcn [.one (atP c2 0)] fun o3 =>
   iteP (atP o3 16)
    (binP .eql (atP o3 0) v1 fun r4 =>
    iteP r4
     (call Qhj [.agg [v5,v6],.one (atP c2 0)] fun o5 =>
     call Qhu [.one v1,.one v2,.agg [(atP c2 0),(atP c2 1),(atP c2 2),(atP c2 3),(atP c2 4),(atP c2 5),(atP c2 6),(atP c2 7),(atP c2 8),(atP c2 9),(atP c2 10),(atP c2 11),(atP c2 12),(atP c2 13),(atP c2 14),(atP c2 15),(atP c2 16),(atP c2 17),(atP c2 18),(atP c2 19),(atP c2 20)],.one v3] fun o6 =>
     binP .eql (atP o5 2) (I 1) fun r7 =>
     iteP r7
      (binP .eql (atP o6 0) (I 1) fun r8 =>
      iteP r8
       (call Qhy [.agg [(atP o5 0),(atP o5 1)],.one v1] fun o9 =>
       iteP (atP o9 0)
        ((1=1)∧(1≤16777216)∧(1=1)∧(0=0)∧(1=1)∧(flatCond [.pv (I 0)] [.pv (I 3)])∧catP 1 v22 (.list 1 [[(I 3)]]) fun r10 =>
        binP .eql (I 3) (I 1) fun r11 =>
        iteP r11
         (call Qbi [.agg [(atP c2 2),(atP c2 3),(atP c2 4),(atP c2 5)]] fun o12 =>
         x0k (atP o5 0) (atP o5 1) (atP c2 1) (atP o12 0) (atP o12 1) (atP o12 2) (atP o12 3) v13 v14 v15 v16 v17 v18 v19 v20 r10 v21)
         (binP .add v4 (I 1) fun r13 =>
         K [v0,v1,v2,v3,r13,(atP o5 0),(atP o5 1),v7,v8,v9,v10,v11,v12,v13,v14,v15,v16,v17,v18,v19,v20,v21,r10]))
        ((1=1)∧(1≤16777216)∧(1=1)∧(0=0)∧(1=1)∧(flatCond [.pv (I 0)] [.pv (atP o6 0)])∧catP 1 v22 (.list 1 [[(atP o6 0)]]) fun r14 =>
        binP .eql (atP o6 0) (I 1) fun r15 =>
        iteP r15
         (call Qbi [.agg [(atP c2 2),(atP c2 3),(atP c2 4),(atP c2 5)]] fun o16 =>
         x0k (atP o5 0) (atP o5 1) (atP c2 1) (atP o16 0) (atP o16 1) (atP o16 2) (atP o16 3) v13 v14 v15 v16 v17 v18 v19 v20 r14 v21)
         (binP .add v4 (I 1) fun r17 =>
         K [v0,v1,v2,v3,r17,(atP o5 0),(atP o5 1),v7,v8,v9,v10,v11,v12,v13,v14,v15,v16,v17,v18,v19,v20,v21,r14])))
       ((1=1)∧(1≤16777216)∧(1=1)∧(0=0)∧(1=1)∧(flatCond [.pv (I 0)] [.pv (atP o6 0)])∧catP 1 v22 (.list 1 [[(atP o6 0)]]) fun r18 =>
       binP .eql (atP o6 0) (I 1) fun r19 =>
       iteP r19
        (call Qbi [.agg [(atP c2 2),(atP c2 3),(atP c2 4),(atP c2 5)]] fun o20 =>
        x1k (atP o5 0) (atP o5 1) (atP c2 1) (atP o20 0) (atP o20 1) (atP o20 2) (atP o20 3) v13 v14 v15 v16 v17 v18 v19 v20 r18 v21)
        (binP .add v4 (I 1) fun r21 =>
        K [v0,v1,v2,v3,r21,(atP o5 0),(atP o5 1),v7,v8,v9,v10,v11,v12,v13,v14,v15,v16,v17,v18,v19,v20,v21,r18])))
      (binP .eql (atP o5 2) (I 2) fun r22 =>
      iteP r22
       (binP .eql (atP o6 0) (I 1) fun r23 =>
       iteP r23
        (call Qhy [.agg [(atP o5 0),(atP o5 1)],.one v1] fun o24 =>
        iteP (atP o24 0)
         ((1=1)∧(1≤16777216)∧(1=1)∧(0=0)∧(1=1)∧(flatCond [.pv (I 0)] [.pv (I 3)])∧catP 1 v22 (.list 1 [[(I 3)]]) fun r25 =>
         binP .eql (I 3) (I 1) fun r26 =>
         iteP r26
          (call Qbi [.agg [(atP c2 2),(atP c2 3),(atP c2 4),(atP c2 5)]] fun o27 =>
          x0k (atP o5 0) (atP o5 1) (atP c2 1) (atP o27 0) (atP o27 1) (atP o27 2) (atP o27 3) v13 v14 v15 v16 v17 v18 v19 v20 r25 v21)
          (binP .add v4 (I 1) fun r28 =>
          K [v0,v1,v2,v3,r28,(atP o5 0),(atP o5 1),v7,v8,v9,v10,v11,v12,v13,v14,v15,v16,v17,v18,v19,v20,v21,r25]))
         ((1=1)∧(1≤16777216)∧(1=1)∧(0=0)∧(1=1)∧(flatCond [.pv (I 0)] [.pv (atP o6 0)])∧catP 1 v22 (.list 1 [[(atP o6 0)]]) fun r29 =>
         binP .eql (atP o6 0) (I 1) fun r30 =>
         iteP r30
          (call Qbi [.agg [(atP c2 2),(atP c2 3),(atP c2 4),(atP c2 5)]] fun o31 =>
          x0k (atP o5 0) (atP o5 1) (atP c2 1) (atP o31 0) (atP o31 1) (atP o31 2) (atP o31 3) v13 v14 v15 v16 v17 v18 v19 v20 r29 v21)
          (binP .add v4 (I 1) fun r32 =>
          K [v0,v1,v2,v3,r32,(atP o5 0),(atP o5 1),v7,v8,v9,v10,v11,v12,v13,v14,v15,v16,v17,v18,v19,v20,v21,r29])))
        ((1=1)∧(1≤16777216)∧(1=1)∧(0=0)∧(1=1)∧(flatCond [.pv (I 0)] [.pv (atP o6 0)])∧catP 1 v22 (.list 1 [[(atP o6 0)]]) fun r33 =>
        binP .eql (atP o6 0) (I 1) fun r34 =>
        iteP r34
         (call Qbi [.agg [(atP c2 2),(atP c2 3),(atP c2 4),(atP c2 5)]] fun o35 =>
         x1k (atP o5 0) (atP o5 1) (atP c2 1) (atP o35 0) (atP o35 1) (atP o35 2) (atP o35 3) v13 v14 v15 v16 v17 v18 v19 v20 r33 v21)
         (binP .add v4 (I 1) fun r36 =>
         K [v0,v1,v2,v3,r36,(atP o5 0),(atP o5 1),v7,v8,v9,v10,v11,v12,v13,v14,v15,v16,v17,v18,v19,v20,v21,r33])))
       (binP .eql (atP o5 2) (I 3) fun r37 =>
       binP .eql (atP o6 0) (I 1) fun r38 =>
       iteP r38
        (unP .not r37 fun r39 =>
        iteP r39
         ((1=1)∧(1≤16777216)∧(1=1)∧(0=0)∧(1=1)∧(flatCond [.pv (I 0)] [.pv (I 3)])∧catP 1 v22 (.list 1 [[(I 3)]]) fun r40 =>
         binP .eql (I 3) (I 1) fun r41 =>
         iteP r41
          (call Qbi [.agg [(atP c2 2),(atP c2 3),(atP c2 4),(atP c2 5)]] fun o42 =>
          x1k (atP o5 0) (atP o5 1) (atP c2 1) (atP o42 0) (atP o42 1) (atP o42 2) (atP o42 3) v13 v14 v15 v16 v17 v18 v19 v20 r40 v21)
          (binP .add v4 (I 1) fun r43 =>
          K [v0,v1,v2,v3,r43,(atP o5 0),(atP o5 1),v7,v8,v9,v10,v11,v12,v13,v14,v15,v16,v17,v18,v19,v20,v21,r40]))
         (call Qhy [.agg [(atP o5 0),(atP o5 1)],.one v1] fun o44 =>
         iteP (atP o44 0)
          ((1=1)∧(1≤16777216)∧(1=1)∧(0=0)∧(1=1)∧(flatCond [.pv (I 0)] [.pv (I 3)])∧catP 1 v22 (.list 1 [[(I 3)]]) fun r45 =>
          binP .eql (I 3) (I 1) fun r46 =>
          iteP r46
           (call Qbi [.agg [(atP c2 2),(atP c2 3),(atP c2 4),(atP c2 5)]] fun o47 =>
           x0k (atP o5 0) (atP o5 1) (atP c2 1) (atP o47 0) (atP o47 1) (atP o47 2) (atP o47 3) v13 v14 v15 v16 v17 v18 v19 v20 r45 v21)
           (binP .add v4 (I 1) fun r48 =>
           K [v0,v1,v2,v3,r48,(atP o5 0),(atP o5 1),v7,v8,v9,v10,v11,v12,v13,v14,v15,v16,v17,v18,v19,v20,v21,r45]))
          ((1=1)∧(1≤16777216)∧(1=1)∧(0=0)∧(1=1)∧(flatCond [.pv (I 0)] [.pv (atP o6 0)])∧catP 1 v22 (.list 1 [[(atP o6 0)]]) fun r49 =>
          binP .eql (atP o6 0) (I 1) fun r50 =>
          iteP r50
           (call Qbi [.agg [(atP c2 2),(atP c2 3),(atP c2 4),(atP c2 5)]] fun o51 =>
           x0k (atP o5 0) (atP o5 1) (atP c2 1) (atP o51 0) (atP o51 1) (atP o51 2) (atP o51 3) v13 v14 v15 v16 v17 v18 v19 v20 r49 v21)
           (binP .add v4 (I 1) fun r52 =>
           K [v0,v1,v2,v3,r52,(atP o5 0),(atP o5 1),v7,v8,v9,v10,v11,v12,v13,v14,v15,v16,v17,v18,v19,v20,v21,r49]))))
        ((1=1)∧(1≤16777216)∧(1=1)∧(0=0)∧(1=1)∧(flatCond [.pv (I 0)] [.pv (atP o6 0)])∧catP 1 v22 (.list 1 [[(atP o6 0)]]) fun r53 =>
        binP .eql (atP o6 0) (I 1) fun r54 =>
        iteP r54
         (call Qbi [.agg [(atP c2 2),(atP c2 3),(atP c2 4),(atP c2 5)]] fun o55 =>
         x1k (atP o5 0) (atP o5 1) (atP c2 1) (atP o55 0) (atP o55 1) (atP o55 2) (atP o55 3) v13 v14 v15 v16 v17 v18 v19 v20 r53 v21)
         (binP .add v4 (I 1) fun r56 =>
         K [v0,v1,v2,v3,r56,(atP o5 0),(atP o5 1),v7,v8,v9,v10,v11,v12,v13,v14,v15,v16,v17,v18,v19,v20,v21,r53])))))
     (call Qhu [.one v1,.one v2,.agg [(atP c2 0),(atP c2 1),(atP c2 2),(atP c2 3),(atP c2 4),(atP c2 5),(atP c2 6),(atP c2 7),(atP c2 8),(atP c2 9),(atP c2 10),(atP c2 11),(atP c2 12),(atP c2 13),(atP c2 14),(atP c2 15),(atP c2 16),(atP c2 17),(atP c2 18),(atP c2 19),(atP c2 20)],.one v3] fun o57 =>
     binP .eql (I 6) (I 1) fun r58 =>
     iteP r58
      (binP .eql (atP o57 0) (I 1) fun r59 =>
      iteP r59
       (call Qhy [.agg [v5,v6],.one v1] fun o60 =>
       iteP (atP o60 0)
        ((1=1)∧(1≤16777216)∧(1=1)∧(0=0)∧(1=1)∧(flatCond [.pv (I 0)] [.pv (I 3)])∧catP 1 v22 (.list 1 [[(I 3)]]) fun r61 =>
        binP .eql (I 3) (I 1) fun r62 =>
        iteP r62
         (call Qbi [.agg [(atP c2 2),(atP c2 3),(atP c2 4),(atP c2 5)]] fun o63 =>
         x2k v5 v6 (atP c2 1) (atP o63 0) (atP o63 1) (atP o63 2) (atP o63 3) v13 v14 v15 v16 v17 v18 v19 v20 r61 v21)
         (binP .add v4 (I 1) fun r64 =>
         K [v0,v1,v2,v3,r64,v5,v6,v7,v8,v9,v10,v11,v12,v13,v14,v15,v16,v17,v18,v19,v20,v21,r61]))
        ((1=1)∧(1≤16777216)∧(1=1)∧(0=0)∧(1=1)∧(flatCond [.pv (I 0)] [.pv (atP o57 0)])∧catP 1 v22 (.list 1 [[(atP o57 0)]]) fun r65 =>
        binP .eql (atP o57 0) (I 1) fun r66 =>
        iteP r66
         (call Qbi [.agg [(atP c2 2),(atP c2 3),(atP c2 4),(atP c2 5)]] fun o67 =>
         x2k v5 v6 (atP c2 1) (atP o67 0) (atP o67 1) (atP o67 2) (atP o67 3) v13 v14 v15 v16 v17 v18 v19 v20 r65 v21)
         (binP .add v4 (I 1) fun r68 =>
         K [v0,v1,v2,v3,r68,v5,v6,v7,v8,v9,v10,v11,v12,v13,v14,v15,v16,v17,v18,v19,v20,v21,r65])))
       ((1=1)∧(1≤16777216)∧(1=1)∧(0=0)∧(1=1)∧(flatCond [.pv (I 0)] [.pv (atP o57 0)])∧catP 1 v22 (.list 1 [[(atP o57 0)]]) fun r69 =>
       binP .eql (atP o57 0) (I 1) fun r70 =>
       iteP r70
        (call Qbi [.agg [(atP c2 2),(atP c2 3),(atP c2 4),(atP c2 5)]] fun o71 =>
        x3k v5 v6 (atP c2 1) (atP o71 0) (atP o71 1) (atP o71 2) (atP o71 3) v13 v14 v15 v16 v17 v18 v19 v20 r69 v21)
        (binP .add v4 (I 1) fun r72 =>
        K [v0,v1,v2,v3,r72,v5,v6,v7,v8,v9,v10,v11,v12,v13,v14,v15,v16,v17,v18,v19,v20,v21,r69])))
      (binP .eql (I 6) (I 2) fun r73 =>
      iteP r73
       (binP .eql (atP o57 0) (I 1) fun r74 =>
       iteP r74
        (call Qhy [.agg [v5,v6],.one v1] fun o75 =>
        iteP (atP o75 0)
         ((1=1)∧(1≤16777216)∧(1=1)∧(0=0)∧(1=1)∧(flatCond [.pv (I 0)] [.pv (I 3)])∧catP 1 v22 (.list 1 [[(I 3)]]) fun r76 =>
         binP .eql (I 3) (I 1) fun r77 =>
         iteP r77
          (call Qbi [.agg [(atP c2 2),(atP c2 3),(atP c2 4),(atP c2 5)]] fun o78 =>
          x2k v5 v6 (atP c2 1) (atP o78 0) (atP o78 1) (atP o78 2) (atP o78 3) v13 v14 v15 v16 v17 v18 v19 v20 r76 v21)
          (binP .add v4 (I 1) fun r79 =>
          K [v0,v1,v2,v3,r79,v5,v6,v7,v8,v9,v10,v11,v12,v13,v14,v15,v16,v17,v18,v19,v20,v21,r76]))
         ((1=1)∧(1≤16777216)∧(1=1)∧(0=0)∧(1=1)∧(flatCond [.pv (I 0)] [.pv (atP o57 0)])∧catP 1 v22 (.list 1 [[(atP o57 0)]]) fun r80 =>
         binP .eql (atP o57 0) (I 1) fun r81 =>
         iteP r81
          (call Qbi [.agg [(atP c2 2),(atP c2 3),(atP c2 4),(atP c2 5)]] fun o82 =>
          x2k v5 v6 (atP c2 1) (atP o82 0) (atP o82 1) (atP o82 2) (atP o82 3) v13 v14 v15 v16 v17 v18 v19 v20 r80 v21)
          (binP .add v4 (I 1) fun r83 =>
          K [v0,v1,v2,v3,r83,v5,v6,v7,v8,v9,v10,v11,v12,v13,v14,v15,v16,v17,v18,v19,v20,v21,r80])))
        ((1=1)∧(1≤16777216)∧(1=1)∧(0=0)∧(1=1)∧(flatCond [.pv (I 0)] [.pv (atP o57 0)])∧catP 1 v22 (.list 1 [[(atP o57 0)]]) fun r84 =>
        binP .eql (atP o57 0) (I 1) fun r85 =>
        iteP r85
         (call Qbi [.agg [(atP c2 2),(atP c2 3),(atP c2 4),(atP c2 5)]] fun o86 =>
         x3k v5 v6 (atP c2 1) (atP o86 0) (atP o86 1) (atP o86 2) (atP o86 3) v13 v14 v15 v16 v17 v18 v19 v20 r84 v21)
         (binP .add v4 (I 1) fun r87 =>
         K [v0,v1,v2,v3,r87,v5,v6,v7,v8,v9,v10,v11,v12,v13,v14,v15,v16,v17,v18,v19,v20,v21,r84])))
       (binP .eql (I 6) (I 3) fun r88 =>
       binP .eql (atP o57 0) (I 1) fun r89 =>
       iteP r89
        (unP .not r88 fun r90 =>
        iteP r90
         ((1=1)∧(1≤16777216)∧(1=1)∧(0=0)∧(1=1)∧(flatCond [.pv (I 0)] [.pv (I 3)])∧catP 1 v22 (.list 1 [[(I 3)]]) fun r91 =>
         binP .eql (I 3) (I 1) fun r92 =>
         iteP r92
          (call Qbi [.agg [(atP c2 2),(atP c2 3),(atP c2 4),(atP c2 5)]] fun o93 =>
          x3k v5 v6 (atP c2 1) (atP o93 0) (atP o93 1) (atP o93 2) (atP o93 3) v13 v14 v15 v16 v17 v18 v19 v20 r91 v21)
          (binP .add v4 (I 1) fun r94 =>
          K [v0,v1,v2,v3,r94,v5,v6,v7,v8,v9,v10,v11,v12,v13,v14,v15,v16,v17,v18,v19,v20,v21,r91]))
         (call Qhy [.agg [v5,v6],.one v1] fun o95 =>
         iteP (atP o95 0)
          ((1=1)∧(1≤16777216)∧(1=1)∧(0=0)∧(1=1)∧(flatCond [.pv (I 0)] [.pv (I 3)])∧catP 1 v22 (.list 1 [[(I 3)]]) fun r96 =>
          binP .eql (I 3) (I 1) fun r97 =>
          iteP r97
           (call Qbi [.agg [(atP c2 2),(atP c2 3),(atP c2 4),(atP c2 5)]] fun o98 =>
           x2k v5 v6 (atP c2 1) (atP o98 0) (atP o98 1) (atP o98 2) (atP o98 3) v13 v14 v15 v16 v17 v18 v19 v20 r96 v21)
           (binP .add v4 (I 1) fun r99 =>
           K [v0,v1,v2,v3,r99,v5,v6,v7,v8,v9,v10,v11,v12,v13,v14,v15,v16,v17,v18,v19,v20,v21,r96]))
          ((1=1)∧(1≤16777216)∧(1=1)∧(0=0)∧(1=1)∧(flatCond [.pv (I 0)] [.pv (atP o57 0)])∧catP 1 v22 (.list 1 [[(atP o57 0)]]) fun r100 =>
          binP .eql (atP o57 0) (I 1) fun r101 =>
          iteP r101
           (call Qbi [.agg [(atP c2 2),(atP c2 3),(atP c2 4),(atP c2 5)]] fun o102 =>
           x2k v5 v6 (atP c2 1) (atP o102 0) (atP o102 1) (atP o102 2) (atP o102 3) v13 v14 v15 v16 v17 v18 v19 v20 r100 v21)
           (binP .add v4 (I 1) fun r103 =>
           K [v0,v1,v2,v3,r103,v5,v6,v7,v8,v9,v10,v11,v12,v13,v14,v15,v16,v17,v18,v19,v20,v21,r100]))))
        ((1=1)∧(1≤16777216)∧(1=1)∧(0=0)∧(1=1)∧(flatCond [.pv (I 0)] [.pv (atP o57 0)])∧catP 1 v22 (.list 1 [[(atP o57 0)]]) fun r104 =>
        binP .eql (atP o57 0) (I 1) fun r105 =>
        iteP r105
         (call Qbi [.agg [(atP c2 2),(atP c2 3),(atP c2 4),(atP c2 5)]] fun o106 =>
         x3k v5 v6 (atP c2 1) (atP o106 0) (atP o106 1) (atP o106 2) (atP o106 3) v13 v14 v15 v16 v17 v18 v19 v20 r104 v21)
         (binP .add v4 (I 1) fun r107 =>
         K [v0,v1,v2,v3,r107,v5,v6,v7,v8,v9,v10,v11,v12,v13,v14,v15,v16,v17,v18,v19,v20,v21,r104]))))))
    (call Qhu [.one v1,.one v2,.agg [(atP c2 0),(atP c2 1),(atP c2 2),(atP c2 3),(atP c2 4),(atP c2 5),(atP c2 6),(atP c2 7),(atP c2 8),(atP c2 9),(atP c2 10),(atP c2 11),(atP c2 12),(atP c2 13),(atP c2 14),(atP c2 15),(atP c2 16),(atP c2 17),(atP c2 18),(atP c2 19),(atP c2 20)],.one v3] fun o108 =>
    binP .eql (I 6) (I 1) fun r109 =>
    iteP r109
     (binP .eql (atP o108 0) (I 1) fun r110 =>
     iteP r110
      (call Qhy [.agg [v5,v6],.one v1] fun o111 =>
      iteP (atP o111 0)
       ((1=1)∧(1≤16777216)∧(1=1)∧(0=0)∧(1=1)∧(flatCond [.pv (I 0)] [.pv (I 3)])∧catP 1 v22 (.list 1 [[(I 3)]]) fun r112 =>
       binP .eql (I 3) (I 1) fun r113 =>
       iteP r113
        (call Qbi [.agg [(atP c2 2),(atP c2 3),(atP c2 4),(atP c2 5)]] fun o114 =>
        x2k v5 v6 (atP c2 1) (atP o114 0) (atP o114 1) (atP o114 2) (atP o114 3) v13 v14 v15 v16 v17 v18 v19 v20 r112 v21)
        (binP .add v4 (I 1) fun r115 =>
        K [v0,v1,v2,v3,r115,v5,v6,v7,v8,v9,v10,v11,v12,v13,v14,v15,v16,v17,v18,v19,v20,v21,r112]))
       ((1=1)∧(1≤16777216)∧(1=1)∧(0=0)∧(1=1)∧(flatCond [.pv (I 0)] [.pv (atP o108 0)])∧catP 1 v22 (.list 1 [[(atP o108 0)]]) fun r116 =>
       binP .eql (atP o108 0) (I 1) fun r117 =>
       iteP r117
        (call Qbi [.agg [(atP c2 2),(atP c2 3),(atP c2 4),(atP c2 5)]] fun o118 =>
        x2k v5 v6 (atP c2 1) (atP o118 0) (atP o118 1) (atP o118 2) (atP o118 3) v13 v14 v15 v16 v17 v18 v19 v20 r116 v21)
        (binP .add v4 (I 1) fun r119 =>
        K [v0,v1,v2,v3,r119,v5,v6,v7,v8,v9,v10,v11,v12,v13,v14,v15,v16,v17,v18,v19,v20,v21,r116])))
      ((1=1)∧(1≤16777216)∧(1=1)∧(0=0)∧(1=1)∧(flatCond [.pv (I 0)] [.pv (atP o108 0)])∧catP 1 v22 (.list 1 [[(atP o108 0)]]) fun r120 =>
      binP .eql (atP o108 0) (I 1) fun r121 =>
      iteP r121
       (call Qbi [.agg [(atP c2 2),(atP c2 3),(atP c2 4),(atP c2 5)]] fun o122 =>
       x3k v5 v6 (atP c2 1) (atP o122 0) (atP o122 1) (atP o122 2) (atP o122 3) v13 v14 v15 v16 v17 v18 v19 v20 r120 v21)
       (binP .add v4 (I 1) fun r123 =>
       K [v0,v1,v2,v3,r123,v5,v6,v7,v8,v9,v10,v11,v12,v13,v14,v15,v16,v17,v18,v19,v20,v21,r120])))
     (binP .eql (I 6) (I 2) fun r124 =>
     iteP r124
      (binP .eql (atP o108 0) (I 1) fun r125 =>
      iteP r125
       (call Qhy [.agg [v5,v6],.one v1] fun o126 =>
       iteP (atP o126 0)
        ((1=1)∧(1≤16777216)∧(1=1)∧(0=0)∧(1=1)∧(flatCond [.pv (I 0)] [.pv (I 3)])∧catP 1 v22 (.list 1 [[(I 3)]]) fun r127 =>
        binP .eql (I 3) (I 1) fun r128 =>
        iteP r128
         (call Qbi [.agg [(atP c2 2),(atP c2 3),(atP c2 4),(atP c2 5)]] fun o129 =>
         x2k v5 v6 (atP c2 1) (atP o129 0) (atP o129 1) (atP o129 2) (atP o129 3) v13 v14 v15 v16 v17 v18 v19 v20 r127 v21)
         (binP .add v4 (I 1) fun r130 =>
         K [v0,v1,v2,v3,r130,v5,v6,v7,v8,v9,v10,v11,v12,v13,v14,v15,v16,v17,v18,v19,v20,v21,r127]))
        ((1=1)∧(1≤16777216)∧(1=1)∧(0=0)∧(1=1)∧(flatCond [.pv (I 0)] [.pv (atP o108 0)])∧catP 1 v22 (.list 1 [[(atP o108 0)]]) fun r131 =>
        binP .eql (atP o108 0) (I 1) fun r132 =>
        iteP r132
         (call Qbi [.agg [(atP c2 2),(atP c2 3),(atP c2 4),(atP c2 5)]] fun o133 =>
         x2k v5 v6 (atP c2 1) (atP o133 0) (atP o133 1) (atP o133 2) (atP o133 3) v13 v14 v15 v16 v17 v18 v19 v20 r131 v21)
         (binP .add v4 (I 1) fun r134 =>
         K [v0,v1,v2,v3,r134,v5,v6,v7,v8,v9,v10,v11,v12,v13,v14,v15,v16,v17,v18,v19,v20,v21,r131])))
       ((1=1)∧(1≤16777216)∧(1=1)∧(0=0)∧(1=1)∧(flatCond [.pv (I 0)] [.pv (atP o108 0)])∧catP 1 v22 (.list 1 [[(atP o108 0)]]) fun r135 =>
       binP .eql (atP o108 0) (I 1) fun r136 =>
       iteP r136
        (call Qbi [.agg [(atP c2 2),(atP c2 3),(atP c2 4),(atP c2 5)]] fun o137 =>
        x3k v5 v6 (atP c2 1) (atP o137 0) (atP o137 1) (atP o137 2) (atP o137 3) v13 v14 v15 v16 v17 v18 v19 v20 r135 v21)
        (binP .add v4 (I 1) fun r138 =>
        K [v0,v1,v2,v3,r138,v5,v6,v7,v8,v9,v10,v11,v12,v13,v14,v15,v16,v17,v18,v19,v20,v21,r135])))
      (binP .eql (I 6) (I 3) fun r139 =>
      binP .eql (atP o108 0) (I 1) fun r140 =>
      iteP r140
       (unP .not r139 fun r141 =>
       iteP r141
        ((1=1)∧(1≤16777216)∧(1=1)∧(0=0)∧(1=1)∧(flatCond [.pv (I 0)] [.pv (I 3)])∧catP 1 v22 (.list 1 [[(I 3)]]) fun r142 =>
        binP .eql (I 3) (I 1) fun r143 =>
        iteP r143
         (call Qbi [.agg [(atP c2 2),(atP c2 3),(atP c2 4),(atP c2 5)]] fun o144 =>
         x3k v5 v6 (atP c2 1) (atP o144 0) (atP o144 1) (atP o144 2) (atP o144 3) v13 v14 v15 v16 v17 v18 v19 v20 r142 v21)
         (binP .add v4 (I 1) fun r145 =>
         K [v0,v1,v2,v3,r145,v5,v6,v7,v8,v9,v10,v11,v12,v13,v14,v15,v16,v17,v18,v19,v20,v21,r142]))
        (call Qhy [.agg [v5,v6],.one v1] fun o146 =>
        iteP (atP o146 0)
         ((1=1)∧(1≤16777216)∧(1=1)∧(0=0)∧(1=1)∧(flatCond [.pv (I 0)] [.pv (I 3)])∧catP 1 v22 (.list 1 [[(I 3)]]) fun r147 =>
         binP .eql (I 3) (I 1) fun r148 =>
         iteP r148
          (call Qbi [.agg [(atP c2 2),(atP c2 3),(atP c2 4),(atP c2 5)]] fun o149 =>
          x2k v5 v6 (atP c2 1) (atP o149 0) (atP o149 1) (atP o149 2) (atP o149 3) v13 v14 v15 v16 v17 v18 v19 v20 r147 v21)
          (binP .add v4 (I 1) fun r150 =>
          K [v0,v1,v2,v3,r150,v5,v6,v7,v8,v9,v10,v11,v12,v13,v14,v15,v16,v17,v18,v19,v20,v21,r147]))
         ((1=1)∧(1≤16777216)∧(1=1)∧(0=0)∧(1=1)∧(flatCond [.pv (I 0)] [.pv (atP o108 0)])∧catP 1 v22 (.list 1 [[(atP o108 0)]]) fun r151 =>
         binP .eql (atP o108 0) (I 1) fun r152 =>
         iteP r152
          (call Qbi [.agg [(atP c2 2),(atP c2 3),(atP c2 4),(atP c2 5)]] fun o153 =>
          x2k v5 v6 (atP c2 1) (atP o153 0) (atP o153 1) (atP o153 2) (atP o153 3) v13 v14 v15 v16 v17 v18 v19 v20 r151 v21)
          (binP .add v4 (I 1) fun r154 =>
          K [v0,v1,v2,v3,r154,v5,v6,v7,v8,v9,v10,v11,v12,v13,v14,v15,v16,v17,v18,v19,v20,v21,r151]))))
       ((1=1)∧(1≤16777216)∧(1=1)∧(0=0)∧(1=1)∧(flatCond [.pv (I 0)] [.pv (atP o108 0)])∧catP 1 v22 (.list 1 [[(atP o108 0)]]) fun r155 =>
       binP .eql (atP o108 0) (I 1) fun r156 =>
       iteP r156
        (call Qbi [.agg [(atP c2 2),(atP c2 3),(atP c2 4),(atP c2 5)]] fun o157 =>
        x3k v5 v6 (atP c2 1) (atP o157 0) (atP o157 1) (atP o157 2) (atP o157 3) v13 v14 v15 v16 v17 v18 v19 v20 r155 v21)
        (binP .add v4 (I 1) fun r158 =>
        K [v0,v1,v2,v3,r158,v5,v6,v7,v8,v9,v10,v11,v12,v13,v14,v15,v16,v17,v18,v19,v20,v21,r155]))))))
   (x4k v0 v1 v2 v3 v4 v5 v6 v7 v8 v9 v10 v11 v12 v13 v14 v15 v16 v17 v18 v19 v20 v21 v22)) v
def Qhz:GM
 | [.agg u0,.one a2,.one a3,.one a4,.one a5],k=>un 2 (fun a0 a1 =>
  call Qbg [.agg [a0,a1]] fun o0 =>
  lp (fun L w=>Qhz_r0 w L
   (fun q159 q160 q161 q162 q163 q164 q165 q166 q167 q168 q169 q170 q171 q172 q173 q174 q175=>rt [.pv,.pv,.sc,.sc,.sc,.sc,.pv,.sc,.pv] [q159,q160,q161,q162,q163,q164,q165,(.bool true),q174] k)
   (fun q176 q177 q178 q179 q180 q181 q182 q183 q184 q185 q186 q187 q188 q189 q190 q191 q192=>rt [.pv,.pv,.sc,.sc,.sc,.sc,.pv,.sc,.pv] [q176,q177,q178,q179,q180,q181,q182,(.bool true),q191] k)
   (fun q193 q194 q195 q196 q197 q198 q199 q200 q201 q202 q203 q204 q205 q206 q207 q208 q209=>rt [.pv,.pv,.sc,.sc,.sc,.sc,.pv,.sc,.pv] [q193,q194,q195,q196,q197,q198,q199,(.bool true),q208] k)
   (fun q210 q211 q212 q213 q214 q215 q216 q217 q218 q219 q220 q221 q222 q223 q224 q225 q226=>rt [.pv,.pv,.sc,.sc,.sc,.sc,.pv,.sc,.pv] [q210,q211,q212,q213,q214,q215,q216,(.bool true),q225] k)
   (fun q227 q228 q229 q230 q231 q232 q233 q234 q235 q236 q237 q238 q239 q240 q241 q242 q243 q244 q245 q246 q247 q248 q249=>rt [.pv,.pv,.sc,.sc,.sc,.sc,.pv,.sc,.pv] [q232,q233,q234,q235,q236,q237,q238,q239,q249] k)) [a2,a3,a4,a5,(I 0),(atP o0 0),(atP o0 1),(.bool false),(.str ⟨#[]⟩),(I 0),(I 0),(.list 1 []),(.bool false),(.list 1 []),(.list 51 []),(.bool false),(.str ⟨#[]⟩),(I 0),(I 0),(.list 1 []),(.bool false),(.list 1 []),(.list 1 [])]) u0
 | _,_=>False
abbrev Qhz_e:Ent:=⟨[85],Qhz⟩
def Qhz_l:List LE:=[⟨none,0,⟨[(1,.one zB),(2,.one zB),(3,.one zB),(4,.one zB),(10,.one (.ptr 1 0)),(11,.one (.ptr 4 0)),(12,.one zB)],[(4,[zB,zB,zB,zB,zB,zB,zB,zB,.own 5]),(1,[zB,zB,zB,zB,zB,zB,zB,zB,.own 6])],[(6,⟨.deep,3,1,(.bool false)⟩),(5,⟨.deep,3,1,(.bool false)⟩)],7,99,[]⟩,fun K k v=>Qhz_r0 v K (fun x0 x1 x2 x3 x4 x5 x6 x7 x8 x9 x10 x11 x12 x13 x14 x15 x16=>k .ret ⟨[(10,.one (.ptr 1 0))],[(1,[.pv x0,.pv x1,.pv x2,.pv x3,.pv x4,.pv x5,.pv x6,.kb true,.own 32]),(1,[.pv x7,.pv x8,.pv x9,.pv x10,.pv x11,.pv x12,.pv x13,.pv x14,.own 6])],[(32,⟨.deep,3,1,x15⟩),(6,⟨.deep,3,1,x16⟩)],37,99,[]⟩) (fun x0 x1 x2 x3 x4 x5 x6 x7 x8 x9 x10 x11 x12 x13 x14 x15 x16=>k .ret ⟨[(10,.one (.ptr 1 0))],[(1,[.pv x0,.pv x1,.pv x2,.pv x3,.pv x4,.pv x5,.pv x6,.kb true,.own 31]),(1,[.pv x7,.pv x8,.pv x9,.pv x10,.pv x11,.pv x12,.pv x13,.pv x14,.own 6])],[(31,⟨.deep,3,1,x15⟩),(6,⟨.deep,3,1,x16⟩)],36,99,[]⟩) (fun x0 x1 x2 x3 x4 x5 x6 x7 x8 x9 x10 x11 x12 x13 x14 x15 x16=>k .ret ⟨[(10,.one (.ptr 1 0))],[(1,[.pv x0,.pv x1,.pv x2,.pv x3,.pv x4,.pv x5,.pv x6,.kb true,.own 29]),(1,[.pv x7,.pv x8,.pv x9,.pv x10,.pv x11,.pv x12,.pv x13,.pv x14,.own 6])],[(29,⟨.deep,3,1,x15⟩),(6,⟨.deep,3,1,x16⟩)],34,99,[]⟩) (fun x0 x1 x2 x3 x4 x5 x6 x7 x8 x9 x10 x11 x12 x13 x14 x15 x16=>k .ret ⟨[(10,.one (.ptr 1 0))],[(1,[.pv x0,.pv x1,.pv x2,.pv x3,.pv x4,.pv x5,.pv x6,.kb true,.own 28]),(1,[.pv x7,.pv x8,.pv x9,.pv x10,.pv x11,.pv x12,.pv x13,.pv x14,.own 6])],[(28,⟨.deep,3,1,x15⟩),(6,⟨.deep,3,1,x16⟩)],33,99,[]⟩) (fun x0 x1 x2 x3 x4 x5 x6 x7 x8 x9 x10 x11 x12 x13 x14 x15 x16 x17 x18 x19 x20 x21 x22=>k (.exit 0) ⟨[(1,.one (.pv x0)),(2,.one (.pv x1)),(3,.one (.pv x2)),(4,.one (.pv x3)),(10,.one (.ptr 1 0)),(11,.one (.ptr 4 0)),(12,.one (.pv x4))],[(4,[.pv x5,.pv x6,.pv x7,.pv x8,.pv x9,.pv x10,.pv x11,.pv x12,.own 5]),(1,[.pv x13,.pv x14,.pv x15,.pv x16,.pv x17,.pv x18,.pv x19,.pv x20,.own 6])],[(6,⟨.deep,3,1,x21⟩),(5,⟨.deep,3,1,x22⟩)],7,99,[]⟩)⟩]
theorem Qhz_s:LEsOK [Qbg_e,Qcn_e,Qhj_e,Qhu_e,Qhy_e,Qbi_e] TT.shr (kk [1,2,3,4,10,11,12,40,41,42,43,62,63,66,67,72,73,74,75,76,77,78,79,999999]) Qhz_l Tryz.f85 Qhz_l:=⟨fun v K k h=>by
 apply un_all h;exact fun v0 v1 v2 v3 v4 v5 v6 v7 v8 v9 v10 v11 v12 v13 v14 v15 v16 v17 v18 v19 v20 v21 v22 h=>km h
 ,trivial⟩
theorem Qhz_w:EntOK Tryz.prog TT Qhz_e:=okS_ tabok (L:=[Qbg_e,Qcn_e,Qhj_e,Qhu_e,Qhy_e,Qbi_e]) ⟨Qbg_w,Qcn_w,Qhj_w,Qhu_w,Qhy_w,Qbi_w,trivial⟩ (keep:=(kk [1,2,3,4,10,11,12,40,41,42,43,62,63,66,67,72,73,74,75,76,77,78,79,999999])) (l:=Qhz_l) Tryz.func85 Qhz_s fun av k h=>by
 unfold Qhz at h;split at h
 ·apply un_all h;clear h;intro a0 a1 h;exact km h
 ·exact h.elim
def Qia:GM
 | [.agg u0,.ro (.cells u1)],k=>un 2 (fun a0 a1=>un 1 (fun a2 =>
  call Qgh [.agg [a0,a1]] fun o0 =>
  binP .eql (atP o0 0) a2 fun r1 =>
  rt [.sc] [r1] k) u1) u0
 | _,_=>False
abbrev Qia_e:Ent:=⟨[249],Qia⟩
theorem Qia_w:EntOK Tryz.prog TT Qia_e:=okF_ tabok (L:=[Qgh_e]) ⟨Qgh_w,trivial⟩ (keep:=[]) (l:=[]) Tryz.func249 trivial fun av k h=>by
 unfold Qia at h;split at h
 ·apply un_all h;clear h;intro a0 a1 h;apply un_all h;clear h;intro a2 h;exact km h
 ·exact h.elim
def Qib_r0 (v:List PV) (K:List PV→Prop) (x0k:PV→Prop) (x1k:PV→PV→PV→PV→PV→Prop):Prop :=
 un 5 (fun v0 v1 v2 v3 v4 =>
  binP .lss v4 v3 fun r0 =>
  iteP r0
   (elemP 2 v0 v4 fun c1 =>
   call Qia [.agg [(atP c1 0),(atP c1 1)],.ro (.cells [v1])] fun o2 =>
   iteP (atP o2 0)
    (x0k v4)
    (binP .add v4 (I 1) fun r3 =>
    K [v0,v1,v2,v3,r3]))
   (x1k v0 v1 v2 v3 v4)) v
def Qib:GM
 | [.one a0,.fn 249 [.cells u0]],k=>un 1 (fun a1 =>
  lenP a0 fun r0 =>
  lp (fun L w=>Qib_r0 w L
   (fun q4=>rt [.sc] [q4] k)
   (fun q5 q6 q7 q8 q9=>rt [.sc] [(I (-1))] k)) [a0,a1,(I 0),r0,(I 0)]) u0
 | _,_=>False
abbrev Qib_e:Ent:=⟨[248,249],Qib⟩
def Qib_l:List LE:=[⟨none,0,⟨[(0,.one zB),(1,.one (.fn 249 [.ro (.cells [(.bool false)])])),(4,.one zB),(7,.one zB),(8,.one zB)],[],[],0,19,[]⟩,fun K k v=>Qib_r0 v K (fun x0=>k .ret ⟨[(4,.one (.pv x0))],[],[],1,19,[]⟩) (fun x0 x1 x2 x3 x4=>k (.exit 0) ⟨[(0,.one (.pv x0)),(1,.one (.fn 249 [.ro (.cells [x1])])),(4,.one (.pv x2)),(7,.one (.pv x3)),(8,.one (.pv x4))],[],[],0,19,[]⟩)⟩]
theorem Qib_s:LEsOK [Qia_e] TT (kk [0,1,4,7,8]) Qib_l Tryz.f248 Qib_l:=⟨fun v K k h=>by
 apply un_all h;exact fun v0 v1 v2 v3 v4 h=>km h
 ,trivial⟩
theorem Qib_w:EntOK Tryz.prog TT Qib_e:=ok_ tabok (L:=[Qia_e]) ⟨Qia_w,trivial⟩ (keep:=(kk [0,1,4,7,8])) (l:=Qib_l) Tryz.func248 Qib_s fun av k h=>by
 unfold Qib at h;split at h
 ·apply un_all h;clear h;intro a1 h;exact km h
 ·exact h.elim
def Qic:GM
 | [.agg u0,.one a2],k=>un 2 (fun a0 a1 =>
  binP .lss a2 (I 0) fun r0 =>
  iteP r0
   (rt [.sc] [(I (-1))] k)
   (call Qib [.one a0,.fn 249 [.cells [a2]]] fun o1 =>
   rt [.sc] [(atP o1 0)] k)) u0
 | _,_=>False
abbrev Qic_e:Ent:=⟨[178],Qic⟩
theorem Qic_w:EntOK Tryz.prog TT Qic_e:=okF_ tabok (L:=[Qib_e]) ⟨Qib_w,trivial⟩ (keep:=[]) (l:=[]) Tryz.func178 trivial fun av k h=>by
 unfold Qic at h;split at h
 ·apply un_all h;clear h;intro a0 a1 h;exact km h
 ·exact h.elim
def Qid:GM
 | [.agg u0,.ro (.cells u1)],k=>un 4 (fun a0 a1 a2 a3=>un 1 (fun a4 =>
  binP .eql a0 a4 fun r0 =>
  rt [.sc] [r0] k) u1) u0
 | _,_=>False
abbrev Qid_e:Ent:=⟨[358],Qid⟩
theorem Qid_w:EntOK Tryz.prog TT Qid_e:=okF_ tabok (L:=[]) trivial (keep:=[]) (l:=[]) Tryz.func358 trivial fun av k h=>by
 unfold Qid at h;split at h
 ·apply un_all h;clear h;intro a0 a1 a2 a3 h;apply un_all h;clear h;intro a4 h;exact km h
 ·exact h.elim
def Qie_r0 (v:List PV) (K:List PV→Prop) (x0k:PV→Prop) (x1k:PV→PV→PV→PV→PV→Prop):Prop :=
 un 5 (fun v0 v1 v2 v3 v4 =>
  binP .lss v4 v3 fun r0 =>
  iteP r0
   (elemP 4 v0 v4 fun c1 =>
   call Qid [.agg [(atP c1 0),(atP c1 1),(atP c1 2),(atP c1 3)],.ro (.cells [v1])] fun o2 =>
   iteP (atP o2 0)
    (x0k v4)
    (binP .add v4 (I 1) fun r3 =>
    K [v0,v1,v2,v3,r3]))
   (x1k v0 v1 v2 v3 v4)) v
def Qie:GM
 | [.one a0,.fn 358 [.cells u0]],k=>un 1 (fun a1 =>
  lenP a0 fun r0 =>
  lp (fun L w=>Qie_r0 w L
   (fun q4=>rt [.sc] [q4] k)
   (fun q5 q6 q7 q8 q9=>rt [.sc] [(I (-1))] k)) [a0,a1,(I 0),r0,(I 0)]) u0
 | _,_=>False
abbrev Qie_e:Ent:=⟨[357,358],Qie⟩
def Qie_l:List LE:=[⟨none,0,⟨[(0,.one zB),(1,.one (.fn 358 [.ro (.cells [(.bool false)])])),(4,.one zB),(7,.one zB),(8,.one zB)],[],[],0,19,[]⟩,fun K k v=>Qie_r0 v K (fun x0=>k .ret ⟨[(4,.one (.pv x0))],[],[],1,19,[]⟩) (fun x0 x1 x2 x3 x4=>k (.exit 0) ⟨[(0,.one (.pv x0)),(1,.one (.fn 358 [.ro (.cells [x1])])),(4,.one (.pv x2)),(7,.one (.pv x3)),(8,.one (.pv x4))],[],[],0,19,[]⟩)⟩]
theorem Qie_s:LEsOK [Qid_e] TT (kk [0,1,4,7,8]) Qie_l Tryz.f357 Qie_l:=⟨fun v K k h=>by
 apply un_all h;exact fun v0 v1 v2 v3 v4 h=>km h
 ,trivial⟩
theorem Qie_w:EntOK Tryz.prog TT Qie_e:=ok_ tabok (L:=[Qid_e]) ⟨Qid_w,trivial⟩ (keep:=(kk [0,1,4,7,8])) (l:=Qie_l) Tryz.func357 Qie_s fun av k h=>by
 unfold Qie at h;split at h
 ·apply un_all h;clear h;intro a1 h;exact km h
 ·exact h.elim
def Qif:GM
 | [.one a0,.one a1],k =>
  call Qie [.one a0,.fn 358 [.cells [a1]]] fun o0 =>
  rt [.sc] [(atP o0 0)] k
 | _,_=>False
abbrev Qif_e:Ent:=⟨[308],Qif⟩
theorem Qif_w:EntOK Tryz.prog TT Qif_e:=okF_ tabok (L:=[Qie_e]) ⟨Qie_w,trivial⟩ (keep:=[]) (l:=[]) Tryz.func308 trivial fun av k h=>by
 unfold Qif at h;split at h
 ·exact km h
 ·exact h.elim
def Qig_r0 (v:List PV) (K:List PV→Prop) (x0k:PV→PV→PV→PV→Prop):Prop :=
 un 4 (fun v0 v1 v2 v3 =>
  lenP v0 fun r0 =>
  binP .gtr r0 (I 1) fun r1 =>
  iteP r1
   (binP .xor v1 (I 1) fun r2 =>
   lenP v0 fun r3 =>
   binP .lss r2 r3 fun r4 =>
   iteP r4
    (elemP 1 v0 r2 fun c5 =>
    (1=1)∧(1≤16777216)∧(1=1)∧(0=0)∧(1=1)∧(flatCond [.pv (I 0)] [.pv (atP c5 0)])∧catP 1 v3 (.list 1 [[(atP c5 0)]]) fun r6 =>
    call Qgb [.one v0] fun o7 =>
    binP .quo v1 (I 2) fun r8 =>
    K [(atP o7 0),r8,v2,r6])
    (call Qgb [.one v0] fun o9 =>
    binP .quo v1 (I 2) fun r10 =>
    K [(atP o9 0),r10,v2,v3]))
   (x0k v0 v1 v2 v3)) v
def Qig:GM
 | [.one a0,.one a1],k =>
  (0=0)∧(0≤16777216)∧(1=1)∧lenP a0 fun r0 =>
  binP .sub r0 (I 1) fun r1 =>
  call Qdv [.one a1,.one (I 0),.one r1] fun o2 =>
  unP .not (atP o2 0) fun r3 =>
  iteP r3
   (rt [.own true 3 1] [(.list 1 [])] k)
   (lp (fun L w=>Qig_r0 w L
    (fun q11 q12 q13 q14=>rt [.own true 3 1] [q14] k)) [a0,a1,(.list 1 []),(.list 1 [])])
 | _,_=>False
abbrev Qig_e:Ent:=⟨[359],Qig⟩
def Qig_l:List LE:=[⟨none,0,⟨[(0,.one zB),(1,.one zB),(4,.one (.own 2)),(5,.one (.own 0))],[],[(2,⟨.deep,3,1,(.bool false)⟩),(0,⟨.deep,3,1,(.bool false)⟩)],3,36,[]⟩,fun K k v=>Qig_r0 v K (fun x0 x1 x2 x3=>k (.exit 0) ⟨[(0,.one (.pv x0)),(1,.one (.pv x1)),(4,.one (.own 2)),(5,.one (.own 0))],[],[(2,⟨.deep,3,1,x2⟩),(0,⟨.deep,3,1,x3⟩)],3,36,[]⟩)⟩]
theorem Qig_s:LEsOK [Qdv_e,Qgb_e] TT.nofl (kk [0,1,4,5,999999]) Qig_l Tryz.f359 Qig_l:=⟨fun v K k h=>by
 apply un_all h;exact fun v0 v1 v2 v3 h=>km h
 ,trivial⟩
theorem Qig_w:EntOK Tryz.prog TT Qig_e:=okF_ tabok (L:=[Qdv_e,Qgb_e]) ⟨Qdv_w,Qgb_w,trivial⟩ (keep:=(kk [0,1,4,5,999999])) (l:=Qig_l) Tryz.func359 Qig_s fun av k h=>by
 unfold Qig at h;split at h
 ·exact km h
 ·exact h.elim
def Qih:GM
 | [.one a0,.one a1],k =>
  call Qif [.one a0,.one a1] fun o0 =>
  binP .lss (atP o0 0) (I 0) fun r1 =>
  iteP r1
   (rt [.sc,.own true 3 1,.sc] [(I 0),(.list 1 []),(.bool false)] k)
   (call Qfy [.one a0] fun o2 =>
   call Qig [.one (atP o2 0),.one (atP o0 0)] fun o3 =>
   rt [.sc,.own true 3 1,.sc] [(atP o0 0),(atP o3 0),(.bool true)] k)
 | _,_=>False
abbrev Qih_e:Ent:=⟨[309],Qih⟩
theorem Qih_w:EntOK Tryz.prog TT Qih_e:=okF_ tabok (L:=[Qif_e,Qfy_e,Qig_e]) ⟨Qif_w,Qfy_w,Qig_w,trivial⟩ (keep:=[]) (l:=[]) Tryz.func309 trivial fun av k h=>by
 unfold Qih at h;split at h
 ·exact km h
 ·exact h.elim
def Qii_r0 (v:List PV) (K:List PV→Prop) (x0k:PV→PV→PV→PV→PV→PV→Prop):Prop :=
 un 6 (fun v0 v1 v2 v3 v4 v5 =>
  binP .lss v5 v4 fun r0 =>
  iteP r0
   (elemP 4 v3 v5 fun c1 =>
   call Qfs [.one (atP c1 0),.one v0] fun o2 =>
   binP .lss (atP o2 0) (I 0) fun r3 =>
   iteP r3
    (binP .add v2 (I 1) fun r4 =>
    binP .add v5 (I 1) fun r5 =>
    K [v0,v1,r4,v3,v4,r5])
    (binP .add v5 (I 1) fun r6 =>
    K [v0,v1,v2,v3,v4,r6]))
   (x0k v0 v1 v2 v3 v4 v5)) v
def Qii:GM
 | [.one a0,.one a1],k =>
  lenP a0 fun r0 =>
  lp (fun L w=>Qii_r0 w L
   (fun q7 q8 q9 q10 q11 q12=>rt [.sc] [q9] k)) [a1,(I 0),(I 0),a0,r0,(I 0)]
 | _,_=>False
abbrev Qii_e:Ent:=⟨[361],Qii⟩
def Qii_l:List LE:=[⟨none,0,⟨[(1,.one zB),(4,.one zB),(5,.one zB),(8,.one zB),(9,.one zB),(10,.one zB)],[],[],0,23,[]⟩,fun K k v=>Qii_r0 v K (fun x0 x1 x2 x3 x4 x5=>k (.exit 0) ⟨[(1,.one (.pv x0)),(4,.one (.pv x1)),(5,.one (.pv x2)),(8,.one (.pv x3)),(9,.one (.pv x4)),(10,.one (.pv x5))],[],[],0,23,[]⟩)⟩]
theorem Qii_s:LEsOK [Qfs_e] TT.nofl (kk [1,4,5,8,9,10,999999]) Qii_l Tryz.f361 Qii_l:=⟨fun v K k h=>by
 apply un_all h;exact fun v0 v1 v2 v3 v4 v5 h=>km h
 ,trivial⟩
theorem Qii_w:EntOK Tryz.prog TT Qii_e:=okF_ tabok (L:=[Qfs_e]) ⟨Qfs_w,trivial⟩ (keep:=(kk [1,4,5,8,9,10,999999])) (l:=Qii_l) Tryz.func361 Qii_s fun av k h=>by
 unfold Qii at h;split at h
 ·exact km h
 ·exact h.elim
def Qij:GM
 | [.one a0,.one a1],k =>
  call Qft [.one a0] fun o0 =>
  unP .not (atP o0 0) fun r1 =>
  iteP r1
   (rt [.sc,.sc,.sc,.sc,.own true 9 1,.sc,.sc,.sc,.own true 9 1,.sc,.own true 3 1,.sc,.own true 3 1,.sc] [(I 0),(.str ⟨#[]⟩),(I 0),(I 0),(.list 1 []),(.str ⟨#[]⟩),(I 0),(I 0),(.list 1 []),(I 0),(.list 1 []),(I 0),(.list 1 []),(.bool false)] k)
   (call Qfk [.one a1] fun o2 =>
   unP .not (atP o2 0) fun r3 =>
   iteP r3
    (rt [.sc,.sc,.sc,.sc,.own true 9 1,.sc,.sc,.sc,.own true 9 1,.sc,.own true 3 1,.sc,.own true 3 1,.sc] [(I 0),(.str ⟨#[]⟩),(I 0),(I 0),(.list 1 []),(.str ⟨#[]⟩),(I 0),(I 0),(.list 1 []),(I 0),(.list 1 []),(I 0),(.list 1 []),(.bool false)] k)
    (call Qif [.one a0,.one a1] fun o4 =>
    binP .geq (atP o4 0) (I 0) fun r5 =>
    iteP r5
     (rt [.sc,.sc,.sc,.sc,.own true 9 1,.sc,.sc,.sc,.own true 9 1,.sc,.own true 3 1,.sc,.own true 3 1,.sc] [(I 0),(.str ⟨#[]⟩),(I 0),(I 0),(.list 1 []),(.str ⟨#[]⟩),(I 0),(I 0),(.list 1 []),(I 0),(.list 1 []),(I 0),(.list 1 []),(.bool false)] k)
     (call Qii [.one a0,.one a1] fun o6 =>
     binP .gtr (atP o6 0) (I 0) fun r7 =>
     iteP r7
      (binP .sub (atP o6 0) (I 1) fun r8 =>
      elemP 4 a0 r8 fun c9 =>
      call Qdn [.agg [(atP c9 0),(atP c9 1),(atP c9 2),(atP c9 3)]] fun o10 =>
      call Qih [.one a0,.one (atP o10 0)] fun o11 =>
      lenP a0 fun r12 =>
      binP .lss (atP o6 0) r12 fun r13 =>
      iteP r13
       (elemP 4 a0 (atP o6 0) fun c14 =>
       call Qdn [.agg [(atP c14 0),(atP c14 1),(atP c14 2),(atP c14 3)]] fun o15 =>
       call Qih [.one a0,.one (atP o15 0)] fun o16 =>
       rt [.sc,.sc,.sc,.sc,.own true 9 1,.sc,.sc,.sc,.own true 9 1,.sc,.own true 3 1,.sc,.own true 3 1,.sc] [(atP o6 0),(atP o10 0),(atP o10 1),(atP o10 2),(atP o10 3),(atP o15 0),(atP o15 1),(atP o15 2),(atP o15 3),(atP o11 0),(atP o11 1),(atP o16 0),(atP o16 1),(.bool true)] k)
       (rt [.sc,.sc,.sc,.sc,.own true 9 1,.sc,.sc,.sc,.own true 9 1,.sc,.own true 3 1,.sc,.own true 3 1,.sc] [(atP o6 0),(atP o10 0),(atP o10 1),(atP o10 2),(atP o10 3),(.str ⟨#[]⟩),(I 0),(I 0),(.list 1 []),(atP o11 0),(atP o11 1),(I 0),(.list 1 []),(.bool true)] k))
      (lenP a0 fun r17 =>
      binP .lss (atP o6 0) r17 fun r18 =>
      iteP r18
       (elemP 4 a0 (atP o6 0) fun c19 =>
       call Qdn [.agg [(atP c19 0),(atP c19 1),(atP c19 2),(atP c19 3)]] fun o20 =>
       call Qih [.one a0,.one (atP o20 0)] fun o21 =>
       rt [.sc,.sc,.sc,.sc,.own true 9 1,.sc,.sc,.sc,.own true 9 1,.sc,.own true 3 1,.sc,.own true 3 1,.sc] [(atP o6 0),(.str ⟨#[]⟩),(I 0),(I 0),(.list 1 []),(atP o20 0),(atP o20 1),(atP o20 2),(atP o20 3),(I 0),(.list 1 []),(atP o21 0),(atP o21 1),(.bool true)] k)
       (rt [.sc,.sc,.sc,.sc,.own true 9 1,.sc,.sc,.sc,.own true 9 1,.sc,.own true 3 1,.sc,.own true 3 1,.sc] [(atP o6 0),(.str ⟨#[]⟩),(I 0),(I 0),(.list 1 []),(.str ⟨#[]⟩),(I 0),(I 0),(.list 1 []),(I 0),(.list 1 []),(I 0),(.list 1 []),(.bool true)] k)))))
 | _,_=>False
abbrev Qij_e:Ent:=⟨[310],Qij⟩
theorem Qij_w:EntOK Tryz.prog TT Qij_e:=okF_ tabok (L:=[Qft_e,Qfk_e,Qif_e,Qii_e,Qdn_e,Qih_e]) ⟨Qft_w,Qfk_w,Qif_w,Qii_w,Qdn_w,Qih_w,trivial⟩ (keep:=[]) (l:=[]) Tryz.func310 trivial fun av k h=>by
 unfold Qij at h;split at h
 ·exact km h
 ·exact h.elim
def Qik:GM
 | [.agg u0,.one a2],k=>un 2 (fun a0 a1 =>
  call Qgg [.agg [a0,a1]] fun o0 =>
  unP .not (atP o0 0) fun r1 =>
  iteP r1
   (rt [.own true 257 17,.sc,.sc,.sc,.sc,.own true 9 1,.sc,.own true 3 1,.sc,.sc,.sc,.sc,.own true 9 1,.sc,.sc,.sc,.own true 9 1,.sc,.own true 3 1,.sc,.own true 3 1] [(.list 17 []),(.bool false),(.str ⟨#[]⟩),(I 0),(I 0),(.list 1 []),(I 0),(.list 1 []),(I 0),(.str ⟨#[]⟩),(I 0),(I 0),(.list 1 []),(.str ⟨#[]⟩),(I 0),(I 0),(.list 1 []),(I 0),(.list 1 []),(I 0),(.list 1 [])] k)
   (call Qfk [.one a2] fun o2 =>
   unP .not (atP o2 0) fun r3 =>
   iteP r3
    (rt [.own true 257 17,.sc,.sc,.sc,.sc,.own true 9 1,.sc,.own true 3 1,.sc,.sc,.sc,.sc,.own true 9 1,.sc,.sc,.sc,.own true 9 1,.sc,.own true 3 1,.sc,.own true 3 1] [(.list 17 []),(.bool false),(.str ⟨#[]⟩),(I 0),(I 0),(.list 1 []),(I 0),(.list 1 []),(I 0),(.str ⟨#[]⟩),(I 0),(I 0),(.list 1 []),(.str ⟨#[]⟩),(I 0),(I 0),(.list 1 []),(I 0),(.list 1 []),(I 0),(.list 1 [])] k)
    (call Qdl [.one a0] fun o4 =>
    call Qif [.one a1,.one a2] fun o5 =>
    binP .geq (atP o5 0) (I 0) fun r6 =>
    iteP r6
     (elemP 4 a1 (atP o5 0) fun c7 =>
     call Qdn [.agg [(atP c7 0),(atP c7 1),(atP c7 2),(atP c7 3)]] fun o8 =>
     call Qih [.one a1,.one a2] fun o9 =>
     rt [.own true 257 17,.sc,.sc,.sc,.sc,.own true 9 1,.sc,.own true 3 1,.sc,.sc,.sc,.sc,.own true 9 1,.sc,.sc,.sc,.own true 9 1,.sc,.own true 3 1,.sc,.own true 3 1] [(atP o4 0),(.bool true),(atP o8 0),(atP o8 1),(atP o8 2),(atP o8 3),(atP o9 0),(atP o9 1),(I 0),(.str ⟨#[]⟩),(I 0),(I 0),(.list 1 []),(.str ⟨#[]⟩),(I 0),(I 0),(.list 1 []),(I 0),(.list 1 []),(I 0),(.list 1 [])] k)
     (call Qij [.one a1,.one a2] fun o10 =>
     rt [.own true 257 17,.sc,.sc,.sc,.sc,.own true 9 1,.sc,.own true 3 1,.sc,.sc,.sc,.sc,.own true 9 1,.sc,.sc,.sc,.own true 9 1,.sc,.own true 3 1,.sc,.own true 3 1] [(atP o4 0),(.bool false),(.str ⟨#[]⟩),(I 0),(I 0),(.list 1 []),(I 0),(.list 1 []),(atP o10 0),(atP o10 1),(atP o10 2),(atP o10 3),(atP o10 4),(atP o10 5),(atP o10 6),(atP o10 7),(atP o10 8),(atP o10 9),(atP o10 10),(atP o10 11),(atP o10 12)] k)))) u0
 | _,_=>False
abbrev Qik_e:Ent:=⟨[252],Qik⟩
theorem Qik_w:EntOK Tryz.prog TT Qik_e:=okF_ tabok (L:=[Qgg_e,Qfk_e,Qdl_e,Qif_e,Qdn_e,Qih_e,Qij_e]) ⟨Qgg_w,Qfk_w,Qdl_w,Qif_w,Qdn_w,Qih_w,Qij_w,trivial⟩ (keep:=[]) (l:=[]) Tryz.func252 trivial fun av k h=>by
 unfold Qik at h;split at h
 ·apply un_all h;clear h;intro a0 a1 h;exact km h
 ·exact h.elim
def Qil:GM
 | [.agg u0,.one a2,.one a3],k=>un 2 (fun a0 a1 =>
  call Qic [.agg [a0,a1],.one a2] fun o0 =>
  binP .lss (atP o0 0) (I 0) fun r1 =>
  iteP r1
   (rt [.own true 257 17,.sc,.sc,.sc,.sc,.own true 9 1,.sc,.own true 3 1,.sc,.sc,.sc,.sc,.own true 9 1,.sc,.sc,.sc,.own true 9 1,.sc,.own true 3 1,.sc,.own true 3 1] [(.list 17 []),(.bool false),(.str ⟨#[]⟩),(I 0),(I 0),(.list 1 []),(I 0),(.list 1 []),(I 0),(.str ⟨#[]⟩),(I 0),(I 0),(.list 1 []),(.str ⟨#[]⟩),(I 0),(I 0),(.list 1 []),(I 0),(.list 1 []),(I 0),(.list 1 [])] k)
   (binP .eql a1 (I 4) fun r2 =>
   iteP r2
    (rt [.own true 257 17,.sc,.sc,.sc,.sc,.own true 9 1,.sc,.own true 3 1,.sc,.sc,.sc,.sc,.own true 9 1,.sc,.sc,.sc,.own true 9 1,.sc,.own true 3 1,.sc,.own true 3 1] [(.list 17 []),(.bool false),(.str ⟨#[]⟩),(I 0),(I 0),(.list 1 []),(I 0),(.list 1 []),(I 0),(.str ⟨#[]⟩),(I 0),(I 0),(.list 1 []),(.str ⟨#[]⟩),(I 0),(I 0),(.list 1 []),(I 0),(.list 1 []),(I 0),(.list 1 [])] k)
    (elemP 2 a0 (atP o0 0) fun c3 =>
    call Qik [.agg [(atP c3 0),(atP c3 1)],.one a3] fun o4 =>
    binP .eql a1 (I 1) fun r5 =>
    iteP r5
     (binP .add (atP o4 4) (I 1) fun r6 =>
     rt [.own true 257 17,.sc,.sc,.sc,.sc,.own true 9 1,.sc,.own true 3 1,.sc,.sc,.sc,.sc,.own true 9 1,.sc,.sc,.sc,.own true 9 1,.sc,.own true 3 1,.sc,.own true 3 1] [(atP o4 0),(atP o4 1),(atP o4 2),(atP o4 3),r6,(atP o4 5),(atP o4 6),(atP o4 7),(atP o4 8),(atP o4 9),(atP o4 10),(atP o4 11),(atP o4 12),(atP o4 13),(atP o4 14),(atP o4 15),(atP o4 16),(atP o4 17),(atP o4 18),(atP o4 19),(atP o4 20)] k)
     (binP .eql a1 (I 2) fun r7 =>
     iteP r7
      (lenP (atP o4 0) fun r8 =>
      binP .sub r8 (I 1) fun r9 =>
      maxP (I 0) r9 fun r10 =>
      natP r10 fun n11 =>
      cutP 17 (atP o4 0) none (some n11) fun r12 =>
      rt [.own true 257 17,.sc,.sc,.sc,.sc,.own true 9 1,.sc,.own true 3 1,.sc,.sc,.sc,.sc,.own true 9 1,.sc,.sc,.sc,.own true 9 1,.sc,.own true 3 1,.sc,.own true 3 1] [r12,(atP o4 1),(atP o4 2),(atP o4 3),(atP o4 4),(atP o4 5),(atP o4 6),(atP o4 7),(atP o4 8),(atP o4 9),(atP o4 10),(atP o4 11),(atP o4 12),(atP o4 13),(atP o4 14),(atP o4 15),(atP o4 16),(atP o4 17),(atP o4 18),(atP o4 19),(atP o4 20)] k)
      (binP .eql a1 (I 3) fun r13 =>
      iteP r13
       (rt [.own true 257 17,.sc,.sc,.sc,.sc,.own true 9 1,.sc,.own true 3 1,.sc,.sc,.sc,.sc,.own true 9 1,.sc,.sc,.sc,.own true 9 1,.sc,.own true 3 1,.sc,.own true 3 1] [(atP o4 0),(.bool false),(.str ⟨#[]⟩),(I 0),(I 0),(.list 1 []),(I 0),(.list 1 []),(I 0),(.str ⟨#[]⟩),(I 0),(I 0),(.list 1 []),(.str ⟨#[]⟩),(I 0),(I 0),(.list 1 []),(I 0),(.list 1 []),(I 0),(.list 1 [])] k)
       (rt [.own true 257 17,.sc,.sc,.sc,.sc,.own true 9 1,.sc,.own true 3 1,.sc,.sc,.sc,.sc,.own true 9 1,.sc,.sc,.sc,.own true 9 1,.sc,.own true 3 1,.sc,.own true 3 1] [(atP o4 0),(atP o4 1),(atP o4 2),(atP o4 3),(atP o4 4),(atP o4 5),(atP o4 6),(atP o4 7),(atP o4 8),(atP o4 9),(atP o4 10),(atP o4 11),(atP o4 12),(atP o4 13),(atP o4 14),(atP o4 15),(atP o4 16),(atP o4 17),(atP o4 18),(atP o4 19),(atP o4 20)] k)))))) u0
 | _,_=>False
abbrev Qil_e:Ent:=⟨[180],Qil⟩
theorem Qil_w:EntOK Tryz.prog TT Qil_e:=okM_ tabok (L:=[Qic_e,Qik_e]) ⟨Qic_w,Qik_w,trivial⟩ (keep:=[]) (l:=[]) Tryz.func180 trivial fun av k h=>by
 unfold Qil at h;split at h
 ·apply un_all h;clear h;intro a0 a1 h;exact km h
 ·exact h.elim
def Qim:GM
 | [.one a0],k =>
  call Qfi [.one a0] fun o0 =>
  unP .not (atP o0 0) fun r1 =>
  iteP r1
   (rt [.sc,.sc,.sc,.sc,.sc,.sc,.sc,.sc,.own true 3 1,.sc,.own true 3 1,.sc,.sc,.own true 3 1,.sc,.sc,.sc] [(I 0),(I 0),(I 0),(I 0),(I 0),(I 0),(I 0),(I 0),(.list 1 []),(I 0),(.list 1 []),(I 0),(I 0),(.list 1 []),(I 0),(.bool false),(.bool false)] k)
   (call Qfj [.one a0] fun o2 =>
   call Qdi [.agg [(atP o2 0),(atP o2 1),(atP o2 2),(atP o2 3),(atP o2 4),(atP o2 5),(atP o2 6),(atP o2 7),(atP o2 8),(atP o2 9),(atP o2 10),(atP o2 11),(atP o2 12),(atP o2 13),(atP o2 14),(atP o2 15)]] fun o3 =>
   rt [.sc,.sc,.sc,.sc,.sc,.sc,.sc,.sc,.own true 3 1,.sc,.own true 3 1,.sc,.sc,.own true 3 1,.sc,.sc,.sc] [(atP o3 0),(atP o3 1),(atP o3 2),(atP o3 3),(atP o3 4),(atP o3 5),(atP o3 6),(atP o3 7),(atP o3 8),(atP o3 9),(atP o3 10),(atP o3 11),(atP o3 12),(atP o3 13),(atP o3 14),(atP o3 15),(.bool true)] k)
 | _,_=>False
abbrev Qim_e:Ent:=⟨[288],Qim⟩
theorem Qim_w:EntOK Tryz.prog TT Qim_e:=okF_ tabok (L:=[Qfi_e,Qfj_e,Qdi_e]) ⟨Qfi_w,Qfj_w,Qdi_w,trivial⟩ (keep:=[]) (l:=[]) Tryz.func288 trivial fun av k h=>by
 unfold Qim at h;split at h
 ·exact km h
 ·exact h.elim
def Qin:GM
 | [.agg u0,.one a16],k=>un 16 (fun a0 a1 a2 a3 a4 a5 a6 a7 a8 a9 a10 a11 a12 a13 a14 a15 =>
  call Qdv [.one a16,.one a3,.one a4] fun o0 =>
  rt [.sc] [(atP o0 0)] k) u0
 | _,_=>False
abbrev Qin_e:Ent:=⟨[289],Qin⟩
theorem Qin_w:EntOK Tryz.prog TT Qin_e:=okF_ tabok (L:=[Qdv_e]) ⟨Qdv_w,trivial⟩ (keep:=[]) (l:=[]) Tryz.func289 trivial fun av k h=>by
 unfold Qin at h;split at h
 ·apply un_all h;clear h;intro a0 a1 a2 a3 a4 a5 a6 a7 a8 a9 a10 a11 a12 a13 a14 a15 h;exact km h
 ·exact h.elim
def Qio_r0 (v:List PV) (K:List PV→Prop) (x0k:Prop) (x1k:PV→PV→PV→PV→PV→PV→Prop):Prop :=
 un 6 (fun v0 v1 v2 v3 v4 v5 =>
  binP .gtr v2 (I 1) fun r0 =>
  iteP r0
   (binP .xor v1 (I 1) fun r1 =>
   binP .geq r1 v2 fun r2 =>
   iteP r2
    (binP .quo v1 (I 2) fun r3 =>
    binP .add v2 (I 1) fun r4 =>
    binP .quo r4 (I 2) fun r5 =>
    K [v0,r3,r5,v3,v4,v5])
    (lenP v3 fun r6 =>
    binP .eql r6 (I 0) fun r7 =>
    iteP r7
     (x0k)
     (binP .rem v1 (I 2) fun r8 =>
     binP .eql r8 (I 0) fun r9 =>
     iteP r9
      (elemP 1 v3 (I 0) fun c10 =>
      call Qga [.one v0,.one (atP c10 0)] fun o11 =>
      natP (I 1) fun n12 =>
      cutP 1 v3 (some n12) none fun r13 =>
      binP .quo v1 (I 2) fun r14 =>
      binP .add v2 (I 1) fun r15 =>
      binP .quo r15 (I 2) fun r16 =>
      K [(atP o11 0),r14,r16,r13,v4,v5])
      (elemP 1 v3 (I 0) fun c17 =>
      call Qga [.one (atP c17 0),.one v0] fun o18 =>
      natP (I 1) fun n19 =>
      cutP 1 v3 (some n19) none fun r20 =>
      binP .quo v1 (I 2) fun r21 =>
      binP .add v2 (I 1) fun r22 =>
      binP .quo r22 (I 2) fun r23 =>
      K [(atP o18 0),r21,r23,r20,v4,v5]))))
   (x1k v0 v1 v2 v3 v4 v5)) v
def Qio:GM
 | [.one a0,.one a1,.one a2,.one a3],k =>
  binP .lss a2 (I 1) fun r0 =>
  iteP r0
   (rt [.sc,.sc] [(I 0),(.bool false)] k)
   (binP .gtr a2 (I 12) fun r1 =>
   iteP r1
    (rt [.sc,.sc] [(I 0),(.bool false)] k)
    (binP .sub a2 (I 1) fun r2 =>
    call Qdv [.one a1,.one (I 0),.one r2] fun o3 =>
    unP .not (atP o3 0) fun r4 =>
    iteP r4
     (rt [.sc,.sc] [(I 0),(.bool false)] k)
     (lp (fun L w=>Qio_r0 w L
      (rt [.sc,.sc] [(I 0),(.bool false)] k)
      (fun q24 q25 q26 q27 q28 q29=>lenP q27 fun r30 =>
       binP .gtr r30 (I 0) fun r31 =>
       iteP r31
        (rt [.sc,.sc] [(I 0),(.bool false)] k)
        (rt [.sc,.sc] [q24,(.bool true)] k))) [a0,a1,a2,a3,(I 0),(.bool false)])))
 | _,_=>False
abbrev Qio_e:Ent:=⟨[392],Qio⟩
def Qio_l:List LE:=[⟨none,0,⟨[(0,.one zB),(1,.one zB),(2,.one zB),(3,.one zB),(8,.one zB),(9,.one zB)],[],[],1,56,[]⟩,fun K k v=>Qio_r0 v K (k .ret ⟨[(8,.one (.pv (I 0))),(9,.one (.kb false))],[],[],1,56,[]⟩) (fun x0 x1 x2 x3 x4 x5=>k (.exit 0) ⟨[(0,.one (.pv x0)),(1,.one (.pv x1)),(2,.one (.pv x2)),(3,.one (.pv x3)),(8,.one (.pv x4)),(9,.one (.pv x5))],[],[],1,56,[]⟩)⟩]
theorem Qio_s:LEsOK [Qdv_e,Qga_e] TT.nofl (kk [0,1,2,3,8,9,999999]) Qio_l Tryz.f392 Qio_l:=⟨fun v K k h=>by
 apply un_all h;exact fun v0 v1 v2 v3 v4 v5 h=>km h
 ,trivial⟩
theorem Qio_w:EntOK Tryz.prog TT Qio_e:=okF_ tabok (L:=[Qdv_e,Qga_e]) ⟨Qdv_w,Qga_w,trivial⟩ (keep:=(kk [0,1,2,3,8,9,999999])) (l:=Qio_l) Tryz.func392 Qio_s fun av k h=>by
 unfold Qio at h;split at h
 ·exact km h
 ·exact h.elim
def Qip:GM
 | [.one a0,.one a1,.agg u0,.agg u1],k=>un 4 (fun a2 a3 a4 a5=>un 2 (fun a6 a7 =>
  call Qfx [.agg [a2,a3,a4,a5]] fun o0 =>
  call Qio [.one (atP o0 0),.one a6,.one a1,.one a7] fun o1 =>
  iteP (atP o1 1)
   (call Qfp [.agg [a2,a3,a4,a5]] fun o2 =>
   iteP (atP o2 0)
    (call Qgd [.one a1,.one (atP o1 0)] fun o3 =>
    binP .eql (atP o3 0) a0 fun r4 =>
    rt [.sc] [r4] k)
    (rt [.sc] [(.bool false)] k))
   (rt [.sc] [(.bool false)] k)) u1) u0
 | _,_=>False
abbrev Qip_e:Ent:=⟨[341],Qip⟩
theorem Qip_w:EntOK Tryz.prog TT Qip_e:=okF_ tabok (L:=[Qfx_e,Qio_e,Qfp_e,Qgd_e]) ⟨Qfx_w,Qio_w,Qfp_w,Qgd_w,trivial⟩ (keep:=[]) (l:=[]) Tryz.func341 trivial fun av k h=>by
 unfold Qip at h;split at h
 ·apply un_all h;clear h;intro a2 a3 a4 a5 h;apply un_all h;clear h;intro a6 a7 h;exact km h
 ·exact h.elim
def Qiq_r0 (v:List PV) (K:List PV→Prop) (x0k:Prop) (x1k:PV→PV→PV→PV→PV→Prop):Prop :=
 un 5 (fun v0 v1 v2 v3 v4 =>
  binP .lss v4 v3 fun r0 =>
  iteP r0
   (elemP 1 v0 v4 fun c1 =>
   elemP 1 v1 v4 fun c2 =>
   binP .neq (atP c1 0) (atP c2 0) fun r3 =>
   iteP r3
    (x0k)
    (binP .add v4 (I 1) fun r4 =>
    K [v0,v1,v2,v3,r4]))
   (x1k v0 v1 v2 v3 v4)) v
def Qiq:GM
 | [.one a0,.one a1],k =>
  lenP a0 fun r0 =>
  lenP a1 fun r1 =>
  binP .neq r0 r1 fun r2 =>
  iteP r2
   (rt [.sc] [(.bool false)] k)
   (lenP a0 fun r3 =>
   lp (fun L w=>Qiq_r0 w L
    (rt [.sc] [(.bool false)] k)
    (fun q5 q6 q7 q8 q9=>rt [.sc] [(.bool true)] k)) [a0,a1,(.bool false),r3,(I 0)])
 | _,_=>False
abbrev Qiq_e:Ent:=⟨[424],Qiq⟩
def Qiq_l:List LE:=[⟨none,0,⟨[(0,.one zB),(1,.one zB),(4,.one zB),(12,.one zB),(13,.one zB)],[],[],0,26,[]⟩,fun K k v=>Qiq_r0 v K (k .ret ⟨[(4,.one (.kb false))],[],[],0,26,[]⟩) (fun x0 x1 x2 x3 x4=>k (.exit 0) ⟨[(0,.one (.pv x0)),(1,.one (.pv x1)),(4,.one (.pv x2)),(12,.one (.pv x3)),(13,.one (.pv x4))],[],[],0,26,[]⟩)⟩]
theorem Qiq_s:LEsOK [] TT (kk [0,1,4,12,13]) Qiq_l Tryz.f424 Qiq_l:=⟨fun v K k h=>by
 apply un_all h;exact fun v0 v1 v2 v3 v4 h=>km h
 ,trivial⟩
theorem Qiq_w:EntOK Tryz.prog TT Qiq_e:=ok_ tabok (L:=[]) trivial (keep:=(kk [0,1,4,12,13])) (l:=Qiq_l) Tryz.func424 Qiq_s fun av k h=>by
 unfold Qiq at h;split at h
 ·exact km h
 ·exact h.elim
def Qir:GM
 | [.agg u0,.agg u1],k=>un 4 (fun a0 a1 a2 a3=>un 4 (fun a4 a5 a6 a7 =>
  binP .eql a0 a4 fun r0 =>
  iteP r0
   (binP .eql a1 a5 fun r1 =>
   iteP r1
    (binP .eql a2 a6 fun r2 =>
    iteP r2
     (call Qiq [.one a3,.one a7] fun o3 =>
     rt [.sc] [(atP o3 0)] k)
     (rt [.sc] [(.bool false)] k))
    (rt [.sc] [(.bool false)] k))
   (rt [.sc] [(.bool false)] k)) u1) u0
 | _,_=>False
abbrev Qir_e:Ent:=⟨[394],Qir⟩
theorem Qir_w:EntOK Tryz.prog TT Qir_e:=okF_ tabok (L:=[Qiq_e]) ⟨Qiq_w,trivial⟩ (keep:=[]) (l:=[]) Tryz.func394 trivial fun av k h=>by
 unfold Qir at h;split at h
 ·apply un_all h;clear h;intro a0 a1 a2 a3 h;apply un_all h;clear h;intro a4 a5 a6 a7 h;exact km h
 ·exact h.elim
def Qis:GM
 | [.agg u0,.agg u1],k=>un 2 (fun a0 a1=>un 2 (fun a2 a3 =>
  binP .eql a0 a2 fun r0 =>
  iteP r0
   (call Qfa [.one a1,.one a3] fun o1 =>
   rt [.sc] [(atP o1 0)] k)
   (rt [.sc] [(.bool false)] k)) u1) u0
 | _,_=>False
abbrev Qis_e:Ent:=⟨[395],Qis⟩
theorem Qis_w:EntOK Tryz.prog TT Qis_e:=okF_ tabok (L:=[Qfa_e]) ⟨Qfa_w,trivial⟩ (keep:=[]) (l:=[]) Tryz.func395 trivial fun av k h=>by
 unfold Qis at h;split at h
 ·apply un_all h;clear h;intro a0 a1 h;apply un_all h;clear h;intro a2 a3 h;exact km h
 ·exact h.elim
def Qit:GM
 | [.agg u0,.agg u1],k=>un 13 (fun a0 a1 a2 a3 a4 a5 a6 a7 a8 a9 a10 a11 a12=>un 13 (fun a13 a14 a15 a16 a17 a18 a19 a20 a21 a22 a23 a24 a25 =>
  binP .eql a0 a13 fun r0 =>
  iteP r0
   (call Qir [.agg [a1,a2,a3,a4],.agg [a14,a15,a16,a17]] fun o1 =>
   iteP (atP o1 0)
    (call Qir [.agg [a5,a6,a7,a8],.agg [a18,a19,a20,a21]] fun o2 =>
    iteP (atP o2 0)
     (call Qis [.agg [a9,a10],.agg [a22,a23]] fun o3 =>
     iteP (atP o3 0)
      (call Qis [.agg [a11,a12],.agg [a24,a25]] fun o4 =>
      rt [.sc] [(atP o4 0)] k)
      (rt [.sc] [(.bool false)] k))
     (rt [.sc] [(.bool false)] k))
    (rt [.sc] [(.bool false)] k))
   (rt [.sc] [(.bool false)] k)) u1) u0
 | _,_=>False
abbrev Qit_e:Ent:=⟨[342],Qit⟩
theorem Qit_w:EntOK Tryz.prog TT Qit_e:=okF_ tabok (L:=[Qir_e,Qis_e]) ⟨Qir_w,Qis_w,trivial⟩ (keep:=[]) (l:=[]) Tryz.func342 trivial fun av k h=>by
 unfold Qit at h;split at h
 ·apply un_all h;clear h;intro a0 a1 a2 a3 a4 a5 a6 a7 a8 a9 a10 a11 a12 h;apply un_all h;clear h;intro a13 a14 a15 a16 a17 a18 a19 a20 a21 a22 a23 a24 a25 h;exact km h
 ·exact h.elim
def Qiu:GM
 | [.agg u0],k=>un 4 (fun a0 a1 a2 a3 =>
  call Qir [.agg [a0,a1,a2,a3],.agg [(.str ⟨#[]⟩),(I 0),(I 0),(.list 1 [])]] fun o0 =>
  rt [.sc] [(atP o0 0)] k) u0
 | _,_=>False
abbrev Qiu_e:Ent:=⟨[344],Qiu⟩
theorem Qiu_w:EntOK Tryz.prog TT Qiu_e:=okF_ tabok (L:=[Qir_e]) ⟨Qir_w,trivial⟩ (keep:=[]) (l:=[]) Tryz.func344 trivial fun av k h=>by
 unfold Qiu at h;split at h
 ·apply un_all h;clear h;intro a0 a1 a2 a3 h;exact km h
 ·exact h.elim
def Qiv:GM
 | [.agg u0],k=>un 2 (fun a0 a1 =>
  call Qis [.agg [a0,a1],.agg [(I 0),(.list 1 [])]] fun o0 =>
  rt [.sc] [(atP o0 0)] k) u0
 | _,_=>False
abbrev Qiv_e:Ent:=⟨[345],Qiv⟩
theorem Qiv_w:EntOK Tryz.prog TT Qiv_e:=okF_ tabok (L:=[Qis_e]) ⟨Qis_w,trivial⟩ (keep:=[]) (l:=[]) Tryz.func345 trivial fun av k h=>by
 unfold Qiv at h;split at h
 ·apply un_all h;clear h;intro a0 a1 h;exact km h
 ·exact h.elim
def Qiw:GM
 | [.one a0,.one a1,.agg u0,.agg u1,.one a8],k=>un 4 (fun a2 a3 a4 a5=>un 2 (fun a6 a7 =>
  binP .sub a1 (I 1) fun r0 =>
  call Qdv [.one a8,.one (I 0),.one r0] fun o1 =>
  unP .not (atP o1 0) fun r2 =>
  iteP r2
   (call Qiu [.agg [a2,a3,a4,a5]] fun o3 =>
   iteP (atP o3 0)
    (call Qiv [.agg [a6,a7]] fun o4 =>
    rt [.sc] [(atP o4 0)] k)
    (rt [.sc] [(.bool false)] k))
   (call Qip [.one a0,.one a1,.agg [a2,a3,a4,a5],.agg [a6,a7]] fun o5 =>
   iteP (atP o5 0)
    (binP .eql a6 a8 fun r6 =>
    rt [.sc] [r6] k)
    (rt [.sc] [(.bool false)] k))) u1) u0
 | _,_=>False
abbrev Qiw_e:Ent:=⟨[396],Qiw⟩
theorem Qiw_w:EntOK Tryz.prog TT Qiw_e:=okF_ tabok (L:=[Qdv_e,Qiu_e,Qiv_e,Qip_e]) ⟨Qdv_w,Qiu_w,Qiv_w,Qip_w,trivial⟩ (keep:=[]) (l:=[]) Tryz.func396 trivial fun av k h=>by
 unfold Qiw at h;split at h
 ·apply un_all h;clear h;intro a2 a3 a4 a5 h;apply un_all h;clear h;intro a6 a7 h;exact km h
 ·exact h.elim
end Go.Ev
