/- The tables of this load, and for each function the meaning that the evaluator gives it, with its proof, part 4. -/
import Derived.Test.YtmhmcamcenidaaaGreatFn3
set_option maxRecDepth 100000
set_option linter.unusedVariables false
namespace Go.Ev
open Go.Proofs
def Qix:GM
 | [.one a0,.one a1,.one a2,.agg u0],k=>un 13 (fun a3 a4 a5 a6 a7 a8 a9 a10 a11 a12 a13 a14 a15 =>
  call Qfk [.one a2] fun o0 =>
  unP .not (atP o0 0) fun r1 =>
  iteP r1
   (rt [.sc] [(.bool false)] k)
   (call Qdv [.one a3,.one (I 0),.one a1] fun o2 =>
   unP .not (atP o2 0) fun r3 =>
   iteP r3
    (rt [.sc] [(.bool false)] k)
    (binP .eql a1 (I 0) fun r4 =>
    iteP r4
     (call Qge [.one (.list 4 [])] fun o5 =>
     binP .neq a0 (atP o5 0) fun r6 =>
     iteP r6
      (rt [.sc] [(.bool false)] k)
      (binP .sub a3 (I 1) fun r7 =>
      call Qiw [.one a0,.one a1,.agg [a4,a5,a6,a7],.agg [a12,a13],.one r7] fun o8 =>
      unP .not (atP o8 0) fun r9 =>
      iteP r9
       (rt [.sc] [(.bool false)] k)
       (call Qiw [.one a0,.one a1,.agg [a8,a9,a10,a11],.agg [a14,a15],.one a3] fun o10 =>
       unP .not (atP o10 0) fun r11 =>
       iteP r11
        (rt [.sc] [(.bool false)] k)
        (binP .eql a3 (I 0) fun r12 =>
        iteP r12
         (binP .eql a3 a1 fun r13 =>
         iteP r13
          (rt [.sc] [(.bool true)] k)
          (call Qfs [.one a8,.one a2] fun o14 =>
          binP .gtr (atP o14 0) (I 0) fun r15 =>
          rt [.sc] [r15] k))
         (call Qfs [.one a4,.one a2] fun o16 =>
         binP .lss (atP o16 0) (I 0) fun r17 =>
         iteP r17
          (binP .eql a3 a1 fun r18 =>
          iteP r18
           (rt [.sc] [(.bool true)] k)
           (call Qfs [.one a8,.one a2] fun o19 =>
           binP .gtr (atP o19 0) (I 0) fun r20 =>
           rt [.sc] [r20] k))
          (rt [.sc] [(.bool false)] k))))))
     (binP .sub a3 (I 1) fun r21 =>
     call Qiw [.one a0,.one a1,.agg [a4,a5,a6,a7],.agg [a12,a13],.one r21] fun o22 =>
     unP .not (atP o22 0) fun r23 =>
     iteP r23
      (rt [.sc] [(.bool false)] k)
      (call Qiw [.one a0,.one a1,.agg [a8,a9,a10,a11],.agg [a14,a15],.one a3] fun o24 =>
      unP .not (atP o24 0) fun r25 =>
      iteP r25
       (rt [.sc] [(.bool false)] k)
       (binP .eql a3 (I 0) fun r26 =>
       iteP r26
        (binP .eql a3 a1 fun r27 =>
        iteP r27
         (rt [.sc] [(.bool true)] k)
         (call Qfs [.one a8,.one a2] fun o28 =>
         binP .gtr (atP o28 0) (I 0) fun r29 =>
         rt [.sc] [r29] k))
        (call Qfs [.one a4,.one a2] fun o30 =>
        binP .lss (atP o30 0) (I 0) fun r31 =>
        iteP r31
         (binP .eql a3 a1 fun r32 =>
         iteP r32
          (rt [.sc] [(.bool true)] k)
          (call Qfs [.one a8,.one a2] fun o33 =>
          binP .gtr (atP o33 0) (I 0) fun r34 =>
          rt [.sc] [r34] k))
         (rt [.sc] [(.bool false)] k)))))))) u0
 | _,_=>False
abbrev Qix_e:Ent:=⟨[343],Qix⟩
theorem Qix_w:EntOK Tryz.prog TT Qix_e:=okF_ tabok (L:=[Qfk_e,Qdv_e,Qge_e,Qiw_e,Qfs_e]) ⟨Qfk_w,Qdv_w,Qge_w,Qiw_w,Qfs_w,trivial⟩ (keep:=[]) (l:=[]) Tryz.func343 trivial fun av k h=>by
 unfold Qix at h;split at h
 ·apply un_all h;clear h;intro a3 a4 a5 a6 a7 a8 a9 a10 a11 a12 a13 a14 a15 h;exact km h
 ·exact h.elim
def Qiy:GM
 | [.agg u0,.one a16,.agg u1],k=>un 16 (fun a0 a1 a2 a3 a4 a5 a6 a7 a8 a9 a10 a11 a12 a13 a14 a15=>un 21 (fun a17 a18 a19 a20 a21 a22 a23 a24 a25 a26 a27 a28 a29 a30 a31 a32 a33 a34 a35 a36 a37 =>
  iteP a18
   (binP .eql a19 a16 fun r0 =>
   iteP r0
    (call Qip [.one a6,.one a5,.agg [a19,a20,a21,a22],.agg [a23,a24]] fun o1 =>
    iteP (atP o1 0)
     (call Qit [.agg [a25,a26,a27,a28,a29,a30,a31,a32,a33,a34,a35,a36,a37],.agg [(I 0),(.str ⟨#[]⟩),(I 0),(I 0),(.list 1 []),(.str ⟨#[]⟩),(I 0),(I 0),(.list 1 []),(I 0),(.list 1 []),(I 0),(.list 1 [])]] fun o2 =>
     rt [.sc] [(atP o2 0)] k)
     (rt [.sc] [(.bool false)] k))
    (rt [.sc] [(.bool false)] k))
   (call Qix [.one a6,.one a5,.one a16,.agg [a25,a26,a27,a28,a29,a30,a31,a32,a33,a34,a35,a36,a37]] fun o3 =>
   iteP (atP o3 0)
    (call Qiu [.agg [a19,a20,a21,a22]] fun o4 =>
    iteP (atP o4 0)
     (call Qiv [.agg [a23,a24]] fun o5 =>
     rt [.sc] [(atP o5 0)] k)
     (rt [.sc] [(.bool false)] k))
    (rt [.sc] [(.bool false)] k))) u1) u0
 | _,_=>False
abbrev Qiy_e:Ent:=⟨[290],Qiy⟩
theorem Qiy_w:EntOK Tryz.prog TT Qiy_e:=okF_ tabok (L:=[Qip_e,Qit_e,Qix_e,Qiu_e,Qiv_e]) ⟨Qip_w,Qit_w,Qix_w,Qiu_w,Qiv_w,trivial⟩ (keep:=[]) (l:=[]) Tryz.func290 trivial fun av k h=>by
 unfold Qiy at h;split at h
 ·apply un_all h;clear h;intro a0 a1 a2 a3 a4 a5 a6 a7 a8 a9 a10 a11 a12 a13 a14 a15 h;apply un_all h;clear h;intro a17 a18 a19 a20 a21 a22 a23 a24 a25 a26 a27 a28 a29 a30 a31 a32 a33 a34 a35 a36 a37 h;exact km h
 ·exact h.elim
def Qiz:GM
 | [.one a0,.one a1,.agg u0,.one a23],k=>un 21 (fun a2 a3 a4 a5 a6 a7 a8 a9 a10 a11 a12 a13 a14 a15 a16 a17 a18 a19 a20 a21 a22 =>
  call Qim [.one a2] fun o0 =>
  unP .not (atP o0 16) fun r1 =>
  iteP r1
   (rt [.sc] [(I 3)] k)
   (binP .neq (atP o0 0) a0 fun r2 =>
   iteP r2
    (rt [.sc] [(I 2)] k)
    (call Qin [.agg [(atP o0 0),(atP o0 1),(atP o0 2),(atP o0 3),(atP o0 4),(atP o0 5),(atP o0 6),(atP o0 7),(atP o0 8),(atP o0 9),(atP o0 10),(atP o0 11),(atP o0 12),(atP o0 13),(atP o0 14),(atP o0 15)],.one a23] fun o3 =>
    unP .not (atP o3 0) fun r4 =>
    iteP r4
     (rt [.sc] [(I 4)] k)
     (iteP (atP o0 15)
      (rt [.sc] [(I 5)] k)
      (call Qiy [.agg [(atP o0 0),(atP o0 1),(atP o0 2),(atP o0 3),(atP o0 4),(atP o0 5),(atP o0 6),(atP o0 7),(atP o0 8),(atP o0 9),(atP o0 10),(atP o0 11),(atP o0 12),(atP o0 13),(atP o0 14),(atP o0 15)],.one a1,.agg [a2,a3,a4,a5,a6,a7,a8,a9,a10,a11,a12,a13,a14,a15,a16,a17,a18,a19,a20,a21,a22]] fun o5 =>
      unP .not (atP o5 0) fun r6 =>
      iteP r6
       (rt [.sc] [(I 6)] k)
       (rt [.sc] [(I 1)] k)))))) u0
 | _,_=>False
abbrev Qiz_e:Ent:=⟨[230],Qiz⟩
theorem Qiz_w:EntOK Tryz.prog TT Qiz_e:=okF_ tabok (L:=[Qim_e,Qin_e,Qiy_e]) ⟨Qim_w,Qin_w,Qiy_w,trivial⟩ (keep:=[]) (l:=[]) Tryz.func230 trivial fun av k h=>by
 unfold Qiz at h;split at h
 ·apply un_all h;clear h;intro a2 a3 a4 a5 a6 a7 a8 a9 a10 a11 a12 a13 a14 a15 a16 a17 a18 a19 a20 a21 a22 h;exact km h
 ·exact h.elim
def Qja:GM
 | [.one a0,.ro (.cells u0)],k=>un 1 (fun a1 =>
  lenP a0 fun r0 =>
  binP .gtr r0 (I 0) fun r1 =>
  iteP r1
   (elemP 17 a0 (I 0) fun c2 =>
   binP .eql (atP c2 0) a1 fun r3 =>
   rt [.sc] [r3] k)
   (rt [.sc] [(.bool false)] k)) u0
 | _,_=>False
abbrev Qja_e:Ent:=⟨[387],Qja⟩
theorem Qja_w:EntOK Tryz.prog TT Qja_e:=okF_ tabok (L:=[]) trivial (keep:=[]) (l:=[]) Tryz.func387 trivial fun av k h=>by
 unfold Qja at h;split at h
 ·apply un_all h;clear h;intro a1 h;exact km h
 ·exact h.elim
def Qjb_r0 (v:List PV) (K:List PV→Prop) (x0k:PV→Prop) (x1k:PV→PV→PV→PV→PV→Prop):Prop :=
 un 5 (fun v0 v1 v2 v3 v4 =>
  binP .lss v4 v3 fun r0 =>
  iteP r0
   (elemP 1 v0 v4 fun c1 =>
   call Qja [.one (atP c1 0),.ro (.cells [v1])] fun o2 =>
   iteP (atP o2 0)
    (x0k v4)
    (binP .add v4 (I 1) fun r3 =>
    K [v0,v1,v2,v3,r3]))
   (x1k v0 v1 v2 v3 v4)) v
def Qjb:GM
 | [.one a0,.fn 387 [.cells u0]],k=>un 1 (fun a1 =>
  lenP a0 fun r0 =>
  lp (fun L w=>Qjb_r0 w L
   (fun q4=>rt [.sc] [q4] k)
   (fun q5 q6 q7 q8 q9=>rt [.sc] [(I (-1))] k)) [a0,a1,(I 0),r0,(I 0)]) u0
 | _,_=>False
abbrev Qjb_e:Ent:=⟨[386,387],Qjb⟩
def Qjb_l:List LE:=[⟨none,0,⟨[(0,.one zB),(1,.one (.fn 387 [.ro (.cells [(.bool false)])])),(4,.one zB),(7,.one zB),(8,.one zB)],[],[],0,19,[]⟩,fun K k v=>Qjb_r0 v K (fun x0=>k .ret ⟨[(4,.one (.pv x0))],[],[],1,19,[]⟩) (fun x0 x1 x2 x3 x4=>k (.exit 0) ⟨[(0,.one (.pv x0)),(1,.one (.fn 387 [.ro (.cells [x1])])),(4,.one (.pv x2)),(7,.one (.pv x3)),(8,.one (.pv x4))],[],[],0,19,[]⟩)⟩]
theorem Qjb_s:LEsOK [Qja_e] TT (kk [0,1,4,7,8]) Qjb_l Tryz.f386 Qjb_l:=⟨fun v K k h=>by
 apply un_all h;exact fun v0 v1 v2 v3 v4 h=>km h
 ,trivial⟩
theorem Qjb_w:EntOK Tryz.prog TT Qjb_e:=ok_ tabok (L:=[Qja_e]) ⟨Qja_w,trivial⟩ (keep:=(kk [0,1,4,7,8])) (l:=Qjb_l) Tryz.func386 Qjb_s fun av k h=>by
 unfold Qjb at h;split at h
 ·apply un_all h;clear h;intro a1 h;exact km h
 ·exact h.elim
def Qjc:GM
 | [.agg u0,.one a2],k=>un 2 (fun a0 a1 =>
  call Qjb [.one a0,.fn 387 [.cells [a2]]] fun o0 =>
  rt [.sc] [(atP o0 0)] k) u0
 | _,_=>False
abbrev Qjc_e:Ent:=⟨[335],Qjc⟩
theorem Qjc_w:EntOK Tryz.prog TT Qjc_e:=okF_ tabok (L:=[Qjb_e]) ⟨Qjb_w,trivial⟩ (keep:=[]) (l:=[]) Tryz.func335 trivial fun av k h=>by
 unfold Qjc at h;split at h
 ·apply un_all h;clear h;intro a0 a1 h;exact km h
 ·exact h.elim
def Qjd:GM
 | [.agg u0,.agg u1],k=>un 16 (fun a0 a1 a2 a3 a4 a5 a6 a7 a8 a9 a10 a11 a12 a13 a14 a15=>un 16 (fun a16 a17 a18 a19 a20 a21 a22 a23 a24 a25 a26 a27 a28 a29 a30 a31 =>
  call Qfb [.agg [a8,a9],.agg [a24,a25]] fun o0 =>
  iteP (atP o0 0)
   (call Qfb [.agg [a10,a11],.agg [a26,a27]] fun o1 =>
   iteP (atP o1 0)
    (call Qfb [.agg [a13,a14],.agg [a29,a30]] fun o2 =>
    iteP (atP o2 0)
     (call Qem [.agg [a0,a1,a2,a3,a4,a5,a6,a7,a8,a9,a10,a11,a12,a13,a14,a15]] fun o3 =>
     call Qem [.agg [a16,a17,a18,a19,a20,a21,a22,a23,a24,a25,a26,a27,a28,a29,a30,a31]] fun o4 =>
     call Qfa [.one (atP o3 0),.one (atP o4 0)] fun o5 =>
     rt [.sc] [(atP o5 0)] k)
     (rt [.sc] [(.bool false)] k))
    (rt [.sc] [(.bool false)] k))
   (rt [.sc] [(.bool false)] k)) u1) u0
 | _,_=>False
abbrev Qjd_e:Ent:=⟨[388],Qjd⟩
theorem Qjd_w:EntOK Tryz.prog TT Qjd_e:=okF_ tabok (L:=[Qfb_e,Qem_e,Qfa_e]) ⟨Qfb_w,Qem_w,Qfa_w,trivial⟩ (keep:=[]) (l:=[]) Tryz.func388 trivial fun av k h=>by
 unfold Qjd at h;split at h
 ·apply un_all h;clear h;intro a0 a1 a2 a3 a4 a5 a6 a7 a8 a9 a10 a11 a12 a13 a14 a15 h;apply un_all h;clear h;intro a16 a17 a18 a19 a20 a21 a22 a23 a24 a25 a26 a27 a28 a29 a30 a31 h;exact km h
 ·exact h.elim
def Qje_r0 (v:List PV) (K:List PV→Prop) (x0k:Prop) (x1k:PV→PV→PV→PV→PV→Prop):Prop :=
 un 5 (fun v0 v1 v2 v3 v4 =>
  binP .lss v4 v3 fun r0 =>
  iteP r0
   (elemP 17 v2 v4 fun c1 =>
   elemP 17 v0 v4 fun c2 =>
   call Qjd [.agg [(atP c1 0),(atP c1 1),(atP c1 2),(atP c1 3),(atP c1 4),(atP c1 5),(atP c1 6),(atP c1 7),(atP c1 8),(atP c1 9),(atP c1 10),(atP c1 11),(atP c1 12),(atP c1 13),(atP c1 14),(atP c1 15)],.agg [(atP c2 0),(atP c2 1),(atP c2 2),(atP c2 3),(atP c2 4),(atP c2 5),(atP c2 6),(atP c2 7),(atP c2 8),(atP c2 9),(atP c2 10),(atP c2 11),(atP c2 12),(atP c2 13),(atP c2 14),(atP c2 15)]] fun o3 =>
   unP .not (atP o3 0) fun r4 =>
   iteP r4
    (x0k)
    (binP .add v4 (I 1) fun r5 =>
    K [v0,v1,v2,v3,r5]))
   (x1k v0 v1 v2 v3 v4)) v
def Qje:GM
 | [.one a0,.one a1],k =>
  lenP a0 fun r0 =>
  lenP a1 fun r1 =>
  binP .gtr r0 r1 fun r2 =>
  iteP r2
   (rt [.sc] [(.bool false)] k)
   (lenP a0 fun r3 =>
   lp (fun L w=>Qje_r0 w L
    (rt [.sc] [(.bool false)] k)
    (fun q6 q7 q8 q9 q10=>rt [.sc] [(.bool true)] k)) [a1,(.bool false),a0,r3,(I 0)])
 | _,_=>False
abbrev Qje_e:Ent:=⟨[385],Qje⟩
def Qje_l:List LE:=[⟨none,0,⟨[(1,.one zB),(4,.one zB),(12,.one zB),(13,.one zB),(14,.one zB)],[],[],0,29,[]⟩,fun K k v=>Qje_r0 v K (k .ret ⟨[(4,.one (.kb false))],[],[],2,29,[]⟩) (fun x0 x1 x2 x3 x4=>k (.exit 0) ⟨[(1,.one (.pv x0)),(4,.one (.pv x1)),(12,.one (.pv x2)),(13,.one (.pv x3)),(14,.one (.pv x4))],[],[],0,29,[]⟩)⟩]
theorem Qje_s:LEsOK [Qjd_e] TT.nofl (kk [1,4,12,13,14,999999]) Qje_l Tryz.f385 Qje_l:=⟨fun v K k h=>by
 apply un_all h;exact fun v0 v1 v2 v3 v4 h=>km h
 ,trivial⟩
theorem Qje_w:EntOK Tryz.prog TT Qje_e:=okF_ tabok (L:=[Qjd_e]) ⟨Qjd_w,trivial⟩ (keep:=(kk [1,4,12,13,14,999999])) (l:=Qje_l) Tryz.func385 Qje_s fun av k h=>by
 unfold Qje at h;split at h
 ·exact km h
 ·exact h.elim
def Qjf:GM
 | [.agg u0,.one a2],k=>un 2 (fun a0 a1 =>
  call Qfi [.one a2] fun o0 =>
  unP .not (atP o0 0) fun r1 =>
  iteP r1
   (rt [.sc] [(I 6)] k)
   (elemP 17 a2 (I 0) fun c2 =>
   call Qjc [.agg [a0,a1],.one (atP c2 0)] fun o3 =>
   binP .lss (atP o3 0) (I 0) fun r4 =>
   iteP r4
    (rt [.sc] [(I 1)] k)
    (elemP 1 a0 (atP o3 0) fun c5 =>
    call Qje [.one (atP c5 0),.one a2] fun o6 =>
    elemP 1 a0 (atP o3 0) fun c7 =>
    call Qje [.one a2,.one (atP c7 0)] fun o8 =>
    iteP (atP o6 0)
     (iteP (atP o8 0)
      (rt [.sc] [(I 2)] k)
      (iteP (atP o6 0)
       (rt [.sc] [(I 3)] k)
       (iteP (atP o8 0)
        (rt [.sc] [(I 4)] k)
        (rt [.sc] [(I 5)] k))))
     (iteP (atP o6 0)
      (rt [.sc] [(I 3)] k)
      (iteP (atP o8 0)
       (rt [.sc] [(I 4)] k)
       (rt [.sc] [(I 5)] k)))))) u0
 | _,_=>False
abbrev Qjf_e:Ent:=⟨[334],Qjf⟩
theorem Qjf_w:EntOK Tryz.prog TT Qjf_e:=okF_ tabok (L:=[Qfi_e,Qjc_e,Qje_e]) ⟨Qfi_w,Qjc_w,Qje_w,trivial⟩ (keep:=[]) (l:=[]) Tryz.func334 trivial fun av k h=>by
 unfold Qjf at h;split at h
 ·apply un_all h;clear h;intro a0 a1 h;exact km h
 ·exact h.elim
def Qjg_r0 (v:List PV) (K:List PV→Prop) (x0k:PV→PV→PV→PV→PV→PV→PV→PV→PV→PV→PV→PV→PV→PV→PV→PV→PV→PV→PV→PV→PV→PV→PV→PV→PV→PV→PV→PV→PV→PV→PV→PV→PV→PV→PV→PV→PV→PV→PV→PV→PV→PV→PV→PV→PV→PV→PV→PV→PV→PV→PV→PV→PV→PV→PV→Prop):Prop :=
 un 55 (fun v0 v1 v2 v3 v4 v5 v6 v7 v8 v9 v10 v11 v12 v13 v14 v15 v16 v17 v18 v19 v20 v21 v22 v23 v24 v25 v26 v27 v28 v29 v30 v31 v32 v33 v34 v35 v36 v37 v38 v39 v40 v41 v42 v43 v44 v45 v46 v47 v48 v49 v50 v51 v52 v53 v54 =>
  elemP 17 v0 v3 fun c0 =>
  elemP 17 v1 v3 fun c1 =>
  call Qjd [.agg [(atP c0 0),(atP c0 1),(atP c0 2),(atP c0 3),(atP c0 4),(atP c0 5),(atP c0 6),(atP c0 7),(atP c0 8),(atP c0 9),(atP c0 10),(atP c0 11),(atP c0 12),(atP c0 13),(atP c0 14),(atP c0 15)],.agg [(atP c1 0),(atP c1 1),(atP c1 2),(atP c1 3),(atP c1 4),(atP c1 5),(atP c1 6),(atP c1 7),(atP c1 8),(atP c1 9),(atP c1 10),(atP c1 11),(atP c1 12),(atP c1 13),(atP c1 14),(atP c1 15)]] fun o2 =>
  iteP (atP o2 0)
   (binP .add v3 (I 1) fun r3 =>
   K [v0,v1,v2,r3,v4,v5,v6,v7,v8,v9,v10,v11,v12,v13,v14,v15,v16,v17,v18,v19,v20,v21,v22,v23,v24,v25,v26,v27,v28,v29,v30,v31,v32,v33,v34,v35,v36,v37,v38,v39,v40,v41,v42,v43,v44,v45,v46,v47,v48,v49,v50,v51,v52,v53,v54])
   (x0k v0 v1 v2 v3 v4 v5 v6 v7 v8 v9 v10 v11 v12 v13 v14 v15 v16 v17 v18 v19 v20 v21 v22 v23 v24 v25 v26 v27 v28 v29 v30 v31 v32 v33 v34 v35 v36 v37 v38 v39 v40 v41 v42 v43 v44 v45 v46 v47 v48 v49 v50 v51 v52 v53 v54)) v
def Qjg:GM
 | [.one a0,.one a1],k =>
  call Qfi [.one a0] fun o0 =>
  unP .not (atP o0 0) fun r1 =>
  iteP r1
   (rt [.sc,.sc,.sc,.sc,.sc,.sc,.sc,.sc,.own true 3 1,.sc,.own true 3 1,.sc,.sc,.own true 3 1,.sc,.sc,.own true 317 2,.sc,.sc,.sc,.sc,.sc,.sc,.sc,.sc,.own true 3 1,.sc,.own true 3 1,.sc,.sc,.own true 3 1,.sc,.sc,.own true 317 2,.sc,.sc,.sc,.sc,.sc,.sc,.sc,.sc,.own true 3 1,.sc,.own true 3 1,.sc,.sc,.own true 3 1,.sc,.sc,.own true 317 2,.sc] [(I 0),(I 0),(I 0),(I 0),(I 0),(I 0),(I 0),(I 0),(.list 1 []),(I 0),(.list 1 []),(I 0),(I 0),(.list 1 []),(I 0),(.bool false),(.list 2 []),(I 0),(I 0),(I 0),(I 0),(I 0),(I 0),(I 0),(I 0),(.list 1 []),(I 0),(.list 1 []),(I 0),(I 0),(.list 1 []),(I 0),(.bool false),(.list 2 []),(I 0),(I 0),(I 0),(I 0),(I 0),(I 0),(I 0),(I 0),(.list 1 []),(I 0),(.list 1 []),(I 0),(I 0),(.list 1 []),(I 0),(.bool false),(.list 2 []),(.bool false)] k)
   (call Qfi [.one a1] fun o2 =>
   unP .not (atP o2 0) fun r3 =>
   iteP r3
    (rt [.sc,.sc,.sc,.sc,.sc,.sc,.sc,.sc,.own true 3 1,.sc,.own true 3 1,.sc,.sc,.own true 3 1,.sc,.sc,.own true 317 2,.sc,.sc,.sc,.sc,.sc,.sc,.sc,.sc,.own true 3 1,.sc,.own true 3 1,.sc,.sc,.own true 3 1,.sc,.sc,.own true 317 2,.sc,.sc,.sc,.sc,.sc,.sc,.sc,.sc,.own true 3 1,.sc,.own true 3 1,.sc,.sc,.own true 3 1,.sc,.sc,.own true 317 2,.sc] [(I 0),(I 0),(I 0),(I 0),(I 0),(I 0),(I 0),(I 0),(.list 1 []),(I 0),(.list 1 []),(I 0),(I 0),(.list 1 []),(I 0),(.bool false),(.list 2 []),(I 0),(I 0),(I 0),(I 0),(I 0),(I 0),(I 0),(I 0),(.list 1 []),(I 0),(.list 1 []),(I 0),(I 0),(.list 1 []),(I 0),(.bool false),(.list 2 []),(I 0),(I 0),(I 0),(I 0),(I 0),(I 0),(I 0),(I 0),(.list 1 []),(I 0),(.list 1 []),(I 0),(I 0),(.list 1 []),(I 0),(.bool false),(.list 2 []),(.bool false)] k)
    (elemP 17 a0 (I 0) fun c4 =>
    elemP 17 a1 (I 0) fun c5 =>
    binP .neq (atP c4 0) (atP c5 0) fun r6 =>
    iteP r6
     (rt [.sc,.sc,.sc,.sc,.sc,.sc,.sc,.sc,.own true 3 1,.sc,.own true 3 1,.sc,.sc,.own true 3 1,.sc,.sc,.own true 317 2,.sc,.sc,.sc,.sc,.sc,.sc,.sc,.sc,.own true 3 1,.sc,.own true 3 1,.sc,.sc,.own true 3 1,.sc,.sc,.own true 317 2,.sc,.sc,.sc,.sc,.sc,.sc,.sc,.sc,.own true 3 1,.sc,.own true 3 1,.sc,.sc,.own true 3 1,.sc,.sc,.own true 317 2,.sc] [(I 0),(I 0),(I 0),(I 0),(I 0),(I 0),(I 0),(I 0),(.list 1 []),(I 0),(.list 1 []),(I 0),(I 0),(.list 1 []),(I 0),(.bool false),(.list 2 []),(I 0),(I 0),(I 0),(I 0),(I 0),(I 0),(I 0),(I 0),(.list 1 []),(I 0),(.list 1 []),(I 0),(I 0),(.list 1 []),(I 0),(.bool false),(.list 2 []),(I 0),(I 0),(I 0),(I 0),(I 0),(I 0),(I 0),(I 0),(.list 1 []),(I 0),(.list 1 []),(I 0),(I 0),(.list 1 []),(I 0),(.bool false),(.list 2 []),(.bool false)] k)
     (call Qje [.one a0,.one a1] fun o7 =>
     iteP (atP o7 0)
      (rt [.sc,.sc,.sc,.sc,.sc,.sc,.sc,.sc,.own true 3 1,.sc,.own true 3 1,.sc,.sc,.own true 3 1,.sc,.sc,.own true 317 2,.sc,.sc,.sc,.sc,.sc,.sc,.sc,.sc,.own true 3 1,.sc,.own true 3 1,.sc,.sc,.own true 3 1,.sc,.sc,.own true 317 2,.sc,.sc,.sc,.sc,.sc,.sc,.sc,.sc,.own true 3 1,.sc,.own true 3 1,.sc,.sc,.own true 3 1,.sc,.sc,.own true 317 2,.sc] [(I 0),(I 0),(I 0),(I 0),(I 0),(I 0),(I 0),(I 0),(.list 1 []),(I 0),(.list 1 []),(I 0),(I 0),(.list 1 []),(I 0),(.bool false),(.list 2 []),(I 0),(I 0),(I 0),(I 0),(I 0),(I 0),(I 0),(I 0),(.list 1 []),(I 0),(.list 1 []),(I 0),(I 0),(.list 1 []),(I 0),(.bool false),(.list 2 []),(I 0),(I 0),(I 0),(I 0),(I 0),(I 0),(I 0),(I 0),(.list 1 []),(I 0),(.list 1 []),(I 0),(I 0),(.list 1 []),(I 0),(.bool false),(.list 2 []),(.bool false)] k)
      (call Qje [.one a1,.one a0] fun o8 =>
      iteP (atP o8 0)
       (rt [.sc,.sc,.sc,.sc,.sc,.sc,.sc,.sc,.own true 3 1,.sc,.own true 3 1,.sc,.sc,.own true 3 1,.sc,.sc,.own true 317 2,.sc,.sc,.sc,.sc,.sc,.sc,.sc,.sc,.own true 3 1,.sc,.own true 3 1,.sc,.sc,.own true 3 1,.sc,.sc,.own true 317 2,.sc,.sc,.sc,.sc,.sc,.sc,.sc,.sc,.own true 3 1,.sc,.own true 3 1,.sc,.sc,.own true 3 1,.sc,.sc,.own true 317 2,.sc] [(I 0),(I 0),(I 0),(I 0),(I 0),(I 0),(I 0),(I 0),(.list 1 []),(I 0),(.list 1 []),(I 0),(I 0),(.list 1 []),(I 0),(.bool false),(.list 2 []),(I 0),(I 0),(I 0),(I 0),(I 0),(I 0),(I 0),(I 0),(.list 1 []),(I 0),(.list 1 []),(I 0),(I 0),(.list 1 []),(I 0),(.bool false),(.list 2 []),(I 0),(I 0),(I 0),(I 0),(I 0),(I 0),(I 0),(I 0),(.list 1 []),(I 0),(.list 1 []),(I 0),(I 0),(.list 1 []),(I 0),(.bool false),(.list 2 []),(.bool false)] k)
       (lp (fun L w=>Qjg_r0 w L
        (fun q9 q10 q11 q12 q13 q14 q15 q16 q17 q18 q19 q20 q21 q22 q23 q24 q25 q26 q27 q28 q29 q30 q31 q32 q33 q34 q35 q36 q37 q38 q39 q40 q41 q42 q43 q44 q45 q46 q47 q48 q49 q50 q51 q52 q53 q54 q55 q56 q57 q58 q59 q60 q61 q62 q63=>elemP 17 q9 q12 fun c64 =>
         call Qdk [.agg [(atP c64 0),(atP c64 1),(atP c64 2),(atP c64 3),(atP c64 4),(atP c64 5),(atP c64 6),(atP c64 7),(atP c64 8),(atP c64 9),(atP c64 10),(atP c64 11),(atP c64 12),(atP c64 13),(atP c64 14),(atP c64 15),(atP c64 16)]] fun o65 =>
         elemP 17 q10 q12 fun c66 =>
         call Qdk [.agg [(atP c66 0),(atP c66 1),(atP c66 2),(atP c66 3),(atP c66 4),(atP c66 5),(atP c66 6),(atP c66 7),(atP c66 8),(atP c66 9),(atP c66 10),(atP c66 11),(atP c66 12),(atP c66 13),(atP c66 14),(atP c66 15),(atP c66 16)]] fun o67 =>
         binP .gtr q12 (I 0) fun r68 =>
         iteP r68
          (binP .sub q12 (I 1) fun r69 =>
          elemP 17 q9 r69 fun c70 =>
          call Qdk [.agg [(atP c70 0),(atP c70 1),(atP c70 2),(atP c70 3),(atP c70 4),(atP c70 5),(atP c70 6),(atP c70 7),(atP c70 8),(atP c70 9),(atP c70 10),(atP c70 11),(atP c70 12),(atP c70 13),(atP c70 14),(atP c70 15),(atP c70 16)]] fun o71 =>
          rt [.sc,.sc,.sc,.sc,.sc,.sc,.sc,.sc,.own true 3 1,.sc,.own true 3 1,.sc,.sc,.own true 3 1,.sc,.sc,.own true 317 2,.sc,.sc,.sc,.sc,.sc,.sc,.sc,.sc,.own true 3 1,.sc,.own true 3 1,.sc,.sc,.own true 3 1,.sc,.sc,.own true 317 2,.sc,.sc,.sc,.sc,.sc,.sc,.sc,.sc,.own true 3 1,.sc,.own true 3 1,.sc,.sc,.own true 3 1,.sc,.sc,.own true 317 2,.sc] [(atP o71 0),(atP o71 1),(atP o71 2),(atP o71 3),(atP o71 4),(atP o71 5),(atP o71 6),(atP o71 7),(atP o71 8),(atP o71 9),(atP o71 10),(atP o71 11),(atP o71 12),(atP o71 13),(atP o71 14),(atP o71 15),(atP o71 16),(atP o65 0),(atP o65 1),(atP o65 2),(atP o65 3),(atP o65 4),(atP o65 5),(atP o65 6),(atP o65 7),(atP o65 8),(atP o65 9),(atP o65 10),(atP o65 11),(atP o65 12),(atP o65 13),(atP o65 14),(atP o65 15),(atP o65 16),(atP o67 0),(atP o67 1),(atP o67 2),(atP o67 3),(atP o67 4),(atP o67 5),(atP o67 6),(atP o67 7),(atP o67 8),(atP o67 9),(atP o67 10),(atP o67 11),(atP o67 12),(atP o67 13),(atP o67 14),(atP o67 15),(atP o67 16),(.bool true)] k)
          (rt [.sc,.sc,.sc,.sc,.sc,.sc,.sc,.sc,.own true 3 1,.sc,.own true 3 1,.sc,.sc,.own true 3 1,.sc,.sc,.own true 317 2,.sc,.sc,.sc,.sc,.sc,.sc,.sc,.sc,.own true 3 1,.sc,.own true 3 1,.sc,.sc,.own true 3 1,.sc,.sc,.own true 317 2,.sc,.sc,.sc,.sc,.sc,.sc,.sc,.sc,.own true 3 1,.sc,.own true 3 1,.sc,.sc,.own true 3 1,.sc,.sc,.own true 317 2,.sc] [(I 0),(I 0),(I 0),(I 0),(I 0),(I 0),(I 0),(I 0),(.list 1 []),(I 0),(.list 1 []),(I 0),(I 0),(.list 1 []),(I 0),(.bool false),(.list 2 []),(atP o65 0),(atP o65 1),(atP o65 2),(atP o65 3),(atP o65 4),(atP o65 5),(atP o65 6),(atP o65 7),(atP o65 8),(atP o65 9),(atP o65 10),(atP o65 11),(atP o65 12),(atP o65 13),(atP o65 14),(atP o65 15),(atP o65 16),(atP o67 0),(atP o67 1),(atP o67 2),(atP o67 3),(atP o67 4),(atP o67 5),(atP o67 6),(atP o67 7),(atP o67 8),(atP o67 9),(atP o67 10),(atP o67 11),(atP o67 12),(atP o67 13),(atP o67 14),(atP o67 15),(atP o67 16),(.bool true)] k))) [a0,a1,(.bool false),(I 0),(I 0),(I 0),(I 0),(I 0),(I 0),(I 0),(I 0),(I 0),(I 0),(I 0),(I 0),(I 0),(.bool false),(I 0),(I 0),(I 0),(I 0),(I 0),(I 0),(I 0),(I 0),(I 0),(I 0),(I 0),(I 0),(.bool false),(I 0),(I 0),(I 0),(I 0),(I 0),(I 0),(I 0),(I 0),(I 0),(I 0),(I 0),(I 0),(.bool false),(.list 2 []),(.list 1 []),(.list 1 []),(.list 1 []),(.list 2 []),(.list 1 []),(.list 1 []),(.list 1 []),(.list 2 []),(.list 1 []),(.list 1 []),(.list 1 [])])))))
 | _,_=>False
abbrev Qjg_e:Ent:=⟨[336],Qjg⟩
def Qjg_l:List LE:=[⟨none,0,⟨[(0,.one zB),(1,.one zB),(4,.one (.ptr 0 0)),(5,.one zB),(6,.one zB)],[(0,[zB,zB,zB,zB,zB,zB,zB,zB,.own 5,zB,.own 6,zB,zB,.own 7,zB,zB,.own 8,zB,zB,zB,zB,zB,zB,zB,zB,.own 9,zB,.own 10,zB,zB,.own 11,zB,zB,.own 12,zB,zB,zB,zB,zB,zB,zB,zB,.own 13,zB,.own 14,zB,zB,.own 15,zB,zB,.own 16])],[(16,⟨.deep,317,2,(.bool false)⟩),(15,⟨.deep,3,1,(.bool false)⟩),(14,⟨.deep,3,1,(.bool false)⟩),(13,⟨.deep,3,1,(.bool false)⟩),(12,⟨.deep,317,2,(.bool false)⟩),(11,⟨.deep,3,1,(.bool false)⟩),(10,⟨.deep,3,1,(.bool false)⟩),(9,⟨.deep,3,1,(.bool false)⟩),(8,⟨.deep,317,2,(.bool false)⟩),(7,⟨.deep,3,1,(.bool false)⟩),(6,⟨.deep,3,1,(.bool false)⟩),(5,⟨.deep,3,1,(.bool false)⟩)],17,74,[]⟩,fun K k v=>Qjg_r0 v K (fun x0 x1 x2 x3 x4 x5 x6 x7 x8 x9 x10 x11 x12 x13 x14 x15 x16 x17 x18 x19 x20 x21 x22 x23 x24 x25 x26 x27 x28 x29 x30 x31 x32 x33 x34 x35 x36 x37 x38 x39 x40 x41 x42 x43 x44 x45 x46 x47 x48 x49 x50 x51 x52 x53 x54=>k (.exit 0) ⟨[(0,.one (.pv x0)),(1,.one (.pv x1)),(4,.one (.ptr 0 0)),(5,.one (.pv x2)),(6,.one (.pv x3))],[(0,[.pv x4,.pv x5,.pv x6,.pv x7,.pv x8,.pv x9,.pv x10,.pv x11,.own 5,.pv x12,.own 6,.pv x13,.pv x14,.own 7,.pv x15,.pv x16,.own 8,.pv x17,.pv x18,.pv x19,.pv x20,.pv x21,.pv x22,.pv x23,.pv x24,.own 9,.pv x25,.own 10,.pv x26,.pv x27,.own 11,.pv x28,.pv x29,.own 12,.pv x30,.pv x31,.pv x32,.pv x33,.pv x34,.pv x35,.pv x36,.pv x37,.own 13,.pv x38,.own 14,.pv x39,.pv x40,.own 15,.pv x41,.pv x42,.own 16])],[(16,⟨.deep,317,2,x43⟩),(15,⟨.deep,3,1,x44⟩),(14,⟨.deep,3,1,x45⟩),(13,⟨.deep,3,1,x46⟩),(12,⟨.deep,317,2,x47⟩),(11,⟨.deep,3,1,x48⟩),(10,⟨.deep,3,1,x49⟩),(9,⟨.deep,3,1,x50⟩),(8,⟨.deep,317,2,x51⟩),(7,⟨.deep,3,1,x52⟩),(6,⟨.deep,3,1,x53⟩),(5,⟨.deep,3,1,x54⟩)],18,74,[]⟩)⟩]
theorem Qjg_s:LEsOK [Qfi_e,Qje_e,Qjd_e,Qdk_e] TT.nofl (kk [0,1,4,5,6,999999]) Qjg_l Tryz.f336 Qjg_l:=⟨fun v K k h=>by
 apply un_all h;exact fun v0 v1 v2 v3 v4 v5 v6 v7 v8 v9 v10 v11 v12 v13 v14 v15 v16 v17 v18 v19 v20 v21 v22 v23 v24 v25 v26 v27 v28 v29 v30 v31 v32 v33 v34 v35 v36 v37 v38 v39 v40 v41 v42 v43 v44 v45 v46 v47 v48 v49 v50 v51 v52 v53 v54 h=>km h
 ,trivial⟩
theorem Qjg_w:EntOK Tryz.prog TT Qjg_e:=okF_ tabok (L:=[Qfi_e,Qje_e,Qjd_e,Qdk_e]) ⟨Qfi_w,Qje_w,Qjd_w,Qdk_w,trivial⟩ (keep:=(kk [0,1,4,5,6,999999])) (l:=Qjg_l) Tryz.func336 Qjg_s fun av k h=>by
 unfold Qjg at h;split at h
 ·exact km h
 ·exact h.elim
def Qjh:GM
 | [.agg u0,.one a2],k=>un 2 (fun a0 a1 =>
  call Qdp [.agg [a0,a1]] fun o0 =>
  call Qjf [.agg [a0,a1],.one a2] fun o1 =>
  binP .eql (atP o1 0) (I 1) fun r2 =>
  iteP r2
   (lenP a0 fun r3 =>
   binP .geq r3 (I 8) fun r4 =>
   iteP r4
    (rt [.own true 90 1,.own true 259 51,.sc] [(atP o0 0),(atP o0 1),(I 6)] k)
    (call Qdl [.one a2] fun o5 =>
    (1=1)∧(1≤16777216)∧(1=1)∧(0=0)∧(1=1)∧(flatCond [.nil 257 17] [.own 6])∧catP 1 (atP o0 0) (.list 1 [[(atP o5 0)]]) fun r6 =>
    rt [.own true 90 1,.own true 259 51,.sc] [r6,(atP o0 1),(atP o1 0)] k))
   (binP .eql (atP o1 0) (I 3) fun r7 =>
   iteP r7
    (elemP 17 a2 (I 0) fun c8 =>
    call Qjc [.agg [a0,a1],.one (atP c8 0)] fun o9 =>
    call Qdl [.one a2] fun o10 =>
    boundP 1 (atP o0 0) (atP o9 0) fun n11 =>
    (flatCond [.nil 257 17] [.own 7])∧setP (atP o0 0) n11 0 [(atP o10 0)] fun r12 =>
    rt [.own true 90 1,.own true 259 51,.sc] [r12,(atP o0 1),(atP o1 0)] k)
    (binP .eql (atP o1 0) (I 5) fun r13 =>
    iteP r13
     (elemP 17 a2 (I 0) fun c14 =>
     call Qjc [.agg [a0,a1],.one (atP c14 0)] fun o15 =>
     elemP 1 a0 (atP o15 0) fun c16 =>
     call Qjg [.one (atP c16 0),.one a2] fun o17 =>
     iteP (atP o17 51)
      (lenP a1 fun r18 =>
      binP .lss r18 (I 8) fun r19 =>
      iteP r19
       ((1=1)∧(51≤16777216)∧(51=51)∧(0=0)∧(51=51)∧(flatCond [.pv (I 0),.pv (I 0),.pv (I 0),.pv (I 0),.pv (I 0),.pv (I 0),.pv (I 0),.pv (I 0),.nil 3 1,.pv (I 0),.nil 3 1,.pv (I 0),.pv (I 0),.nil 3 1,.pv (I 0),zB,.nil 317 2,.pv (I 0),.pv (I 0),.pv (I 0),.pv (I 0),.pv (I 0),.pv (I 0),.pv (I 0),.pv (I 0),.nil 3 1,.pv (I 0),.nil 3 1,.pv (I 0),.pv (I 0),.nil 3 1,.pv (I 0),zB,.nil 317 2,.pv (I 0),.pv (I 0),.pv (I 0),.pv (I 0),.pv (I 0),.pv (I 0),.pv (I 0),.pv (I 0),.nil 3 1,.pv (I 0),.nil 3 1,.pv (I 0),.pv (I 0),.nil 3 1,.pv (I 0),zB,.nil 317 2] [.pv (atP o17 0),.pv (atP o17 1),.pv (atP o17 2),.pv (atP o17 3),.pv (atP o17 4),.pv (atP o17 5),.pv (atP o17 6),.pv (atP o17 7),.own 15,.pv (atP o17 9),.own 17,.pv (atP o17 11),.pv (atP o17 12),.own 20,.pv (atP o17 14),.pv (atP o17 15),.own 23,.pv (atP o17 17),.pv (atP o17 18),.pv (atP o17 19),.pv (atP o17 20),.pv (atP o17 21),.pv (atP o17 22),.pv (atP o17 23),.pv (atP o17 24),.own 32,.pv (atP o17 26),.own 34,.pv (atP o17 28),.pv (atP o17 29),.own 37,.pv (atP o17 31),.pv (atP o17 32),.own 40,.pv (atP o17 34),.pv (atP o17 35),.pv (atP o17 36),.pv (atP o17 37),.pv (atP o17 38),.pv (atP o17 39),.pv (atP o17 40),.pv (atP o17 41),.own 49,.pv (atP o17 43),.own 51,.pv (atP o17 45),.pv (atP o17 46),.own 54,.pv (atP o17 48),.pv (atP o17 49),.own 57])∧catP 51 (atP o0 1) (.list 51 [[(atP o17 0),(atP o17 1),(atP o17 2),(atP o17 3),(atP o17 4),(atP o17 5),(atP o17 6),(atP o17 7),(atP o17 8),(atP o17 9),(atP o17 10),(atP o17 11),(atP o17 12),(atP o17 13),(atP o17 14),(atP o17 15),(atP o17 16),(atP o17 17),(atP o17 18),(atP o17 19),(atP o17 20),(atP o17 21),(atP o17 22),(atP o17 23),(atP o17 24),(atP o17 25),(atP o17 26),(atP o17 27),(atP o17 28),(atP o17 29),(atP o17 30),(atP o17 31),(atP o17 32),(atP o17 33),(atP o17 34),(atP o17 35),(atP o17 36),(atP o17 37),(atP o17 38),(atP o17 39),(atP o17 40),(atP o17 41),(atP o17 42),(atP o17 43),(atP o17 44),(atP o17 45),(atP o17 46),(atP o17 47),(atP o17 48),(atP o17 49),(atP o17 50)]]) fun r20 =>
       rt [.own true 90 1,.own true 259 51,.sc] [(atP o0 0),r20,(atP o1 0)] k)
       (rt [.own true 90 1,.own true 259 51,.sc] [(atP o0 0),(atP o0 1),(atP o1 0)] k))
      (rt [.own true 90 1,.own true 259 51,.sc] [(atP o0 0),(atP o0 1),(atP o1 0)] k))
     (rt [.own true 90 1,.own true 259 51,.sc] [(atP o0 0),(atP o0 1),(atP o1 0)] k)))) u0
 | _,_=>False
abbrev Qjh_e:Ent:=⟨[286],Qjh⟩
theorem Qjh_w:EntOK Tryz.prog TT Qjh_e:=okF_ tabok (L:=[Qdp_e,Qjf_e,Qdl_e,Qjc_e,Qjg_e]) ⟨Qdp_w,Qjf_w,Qdl_w,Qjc_w,Qjg_w,trivial⟩ (keep:=[]) (l:=[]) Tryz.func286 trivial fun av k h=>by
 unfold Qjh at h;split at h
 ·apply un_all h;clear h;intro a0 a1 h;exact km h
 ·exact h.elim
def Qji_r0 (v:List PV) (K:List PV→Prop) (x0k:Prop) (x1k:PV→PV→PV→PV→PV→Prop):Prop :=
 un 5 (fun v0 v1 v2 v3 v4 =>
  binP .lss v4 v3 fun r0 =>
  iteP r0
   (elemP 2 v0 v4 fun c1 =>
   elemP 2 v1 v4 fun c2 =>
   (kindsP [.pv (I 0),.pv (I 0)] [(atP c1 0),(atP c1 1)])∧(kindsP [.pv (I 0),.pv (I 0)] [(atP c2 0),(atP c2 1)])∧aggP .neq [(atP c1 0),(atP c1 1)] [(atP c2 0),(atP c2 1)] fun r3 =>
   iteP r3
    (x0k)
    (binP .add v4 (I 1) fun r4 =>
    K [v0,v1,v2,v3,r4]))
   (x1k v0 v1 v2 v3 v4)) v
def Qji:GM
 | [.one a0,.one a1],k =>
  lenP a0 fun r0 =>
  lenP a1 fun r1 =>
  binP .neq r0 r1 fun r2 =>
  iteP r2
   (rt [.sc] [(.bool false)] k)
   (lenP a0 fun r3 =>
   lp (fun L w=>Qji_r0 w L
    (rt [.sc] [(.bool false)] k)
    (fun q5 q6 q7 q8 q9=>rt [.sc] [(.bool true)] k)) [a0,a1,(.bool false),r3,(I 0)])
 | _,_=>False
abbrev Qji_e:Ent:=⟨[429],Qji⟩
def Qji_l:List LE:=[⟨none,0,⟨[(0,.one zB),(1,.one zB),(4,.one zB),(12,.one zB),(13,.one zB)],[],[],0,26,[]⟩,fun K k v=>Qji_r0 v K (k .ret ⟨[(4,.one (.kb false))],[],[],0,26,[]⟩) (fun x0 x1 x2 x3 x4=>k (.exit 0) ⟨[(0,.one (.pv x0)),(1,.one (.pv x1)),(4,.one (.pv x2)),(12,.one (.pv x3)),(13,.one (.pv x4))],[],[],0,26,[]⟩)⟩]
theorem Qji_s:LEsOK [] TT (kk [0,1,4,12,13]) Qji_l Tryz.f429 Qji_l:=⟨fun v K k h=>by
 apply un_all h;exact fun v0 v1 v2 v3 v4 h=>km h
 ,trivial⟩
theorem Qji_w:EntOK Tryz.prog TT Qji_e:=ok_ tabok (L:=[]) trivial (keep:=(kk [0,1,4,12,13])) (l:=Qji_l) Tryz.func429 Qji_s fun av k h=>by
 unfold Qji at h;split at h
 ·exact km h
 ·exact h.elim
def Qjj:GM
 | [.agg u0,.agg u1],k=>un 17 (fun a0 a1 a2 a3 a4 a5 a6 a7 a8 a9 a10 a11 a12 a13 a14 a15 a16=>un 17 (fun a17 a18 a19 a20 a21 a22 a23 a24 a25 a26 a27 a28 a29 a30 a31 a32 a33 =>
  call Qjd [.agg [a0,a1,a2,a3,a4,a5,a6,a7,a8,a9,a10,a11,a12,a13,a14,a15],.agg [a17,a18,a19,a20,a21,a22,a23,a24,a25,a26,a27,a28,a29,a30,a31,a32]] fun o0 =>
  iteP (atP o0 0)
   (call Qji [.one a16,.one a33] fun o1 =>
   rt [.sc] [(atP o1 0)] k)
   (rt [.sc] [(.bool false)] k)) u1) u0
 | _,_=>False
abbrev Qjj_e:Ent:=⟨[421],Qjj⟩
theorem Qjj_w:EntOK Tryz.prog TT Qjj_e:=okF_ tabok (L:=[Qjd_e,Qji_e]) ⟨Qjd_w,Qji_w,trivial⟩ (keep:=[]) (l:=[]) Tryz.func421 trivial fun av k h=>by
 unfold Qjj at h;split at h
 ·apply un_all h;clear h;intro a0 a1 a2 a3 a4 a5 a6 a7 a8 a9 a10 a11 a12 a13 a14 a15 a16 h;apply un_all h;clear h;intro a17 a18 a19 a20 a21 a22 a23 a24 a25 a26 a27 a28 a29 a30 a31 a32 a33 h;exact km h
 ·exact h.elim
def Qjk:GM
 | [.agg u0],k=>un 51 (fun a0 a1 a2 a3 a4 a5 a6 a7 a8 a9 a10 a11 a12 a13 a14 a15 a16 a17 a18 a19 a20 a21 a22 a23 a24 a25 a26 a27 a28 a29 a30 a31 a32 a33 a34 a35 a36 a37 a38 a39 a40 a41 a42 a43 a44 a45 a46 a47 a48 a49 a50 =>
  call Qjd [.agg [a17,a18,a19,a20,a21,a22,a23,a24,a25,a26,a27,a28,a29,a30,a31,a32],.agg [a34,a35,a36,a37,a38,a39,a40,a41,a42,a43,a44,a45,a46,a47,a48,a49]] fun o0 =>
  iteP (atP o0 0)
   (rt [.sc] [(.bool false)] k)
   (call Qjj [.agg [a0,a1,a2,a3,a4,a5,a6,a7,a8,a9,a10,a11,a12,a13,a14,a15,a16],.agg [(I 0),(I 0),(I 0),(I 0),(I 0),(I 0),(I 0),(I 0),(.list 1 []),(I 0),(.list 1 []),(I 0),(I 0),(.list 1 []),(I 0),(.bool false),(.list 2 [])]] fun o1 =>
   iteP (atP o1 0)
    (call Qew [.agg [a17,a18,a19,a20,a21,a22,a23,a24,a25,a26,a27,a28,a29,a30,a31,a32,a33]] fun o2 =>
    iteP (atP o2 0)
     (call Qew [.agg [a34,a35,a36,a37,a38,a39,a40,a41,a42,a43,a44,a45,a46,a47,a48,a49,a50]] fun o3 =>
     iteP (atP o3 0)
      (binP .eql a17 a34 fun r4 =>
      rt [.sc] [r4] k)
      (rt [.sc] [(.bool false)] k))
     (rt [.sc] [(.bool false)] k))
    (call Qfg [.agg [a0,a1,a2,a3,a4,a5,a6,a7,a8,a9,a10,a11,a12,a13,a14,a15],.agg [a17,a18,a19,a20,a21,a22,a23,a24,a25,a26,a27,a28,a29,a30,a31,a32,a33]] fun o5 =>
    iteP (atP o5 0)
     (call Qfg [.agg [a0,a1,a2,a3,a4,a5,a6,a7,a8,a9,a10,a11,a12,a13,a14,a15],.agg [a34,a35,a36,a37,a38,a39,a40,a41,a42,a43,a44,a45,a46,a47,a48,a49,a50]] fun o6 =>
     rt [.sc] [(atP o6 0)] k)
     (rt [.sc] [(.bool false)] k)))) u0
 | _,_=>False
abbrev Qjk_e:Ent:=⟨[390],Qjk⟩
theorem Qjk_w:EntOK Tryz.prog TT Qjk_e:=okF_ tabok (L:=[Qjd_e,Qjj_e,Qew_e,Qfg_e]) ⟨Qjd_w,Qjj_w,Qew_w,Qfg_w,trivial⟩ (keep:=[]) (l:=[]) Tryz.func390 trivial fun av k h=>by
 unfold Qjk at h;split at h
 ·apply un_all h;clear h;intro a0 a1 a2 a3 a4 a5 a6 a7 a8 a9 a10 a11 a12 a13 a14 a15 a16 a17 a18 a19 a20 a21 a22 a23 a24 a25 a26 a27 a28 a29 a30 a31 a32 a33 a34 a35 a36 a37 a38 a39 a40 a41 a42 a43 a44 a45 a46 a47 a48 a49 a50 h;exact km h
 ·exact h.elim
def Qjl:GM
 | [.agg u0],k=>un 51 (fun a0 a1 a2 a3 a4 a5 a6 a7 a8 a9 a10 a11 a12 a13 a14 a15 a16 a17 a18 a19 a20 a21 a22 a23 a24 a25 a26 a27 a28 a29 a30 a31 a32 a33 a34 a35 a36 a37 a38 a39 a40 a41 a42 a43 a44 a45 a46 a47 a48 a49 a50 =>
  call Qjk [.agg [a0,a1,a2,a3,a4,a5,a6,a7,a8,a9,a10,a11,a12,a13,a14,a15,a16,a17,a18,a19,a20,a21,a22,a23,a24,a25,a26,a27,a28,a29,a30,a31,a32,a33,a34,a35,a36,a37,a38,a39,a40,a41,a42,a43,a44,a45,a46,a47,a48,a49,a50]] fun o0 =>
  unP .not (atP o0 0) fun r1 =>
  iteP r1
   (rt [.sc] [(I (-1))] k)
   (rt [.sc] [a17] k)) u0
 | _,_=>False
abbrev Qjl_e:Ent:=⟨[339],Qjl⟩
theorem Qjl_w:EntOK Tryz.prog TT Qjl_e:=okF_ tabok (L:=[Qjk_e]) ⟨Qjk_w,trivial⟩ (keep:=[]) (l:=[]) Tryz.func339 trivial fun av k h=>by
 unfold Qjl at h;split at h
 ·apply un_all h;clear h;intro a0 a1 a2 a3 a4 a5 a6 a7 a8 a9 a10 a11 a12 a13 a14 a15 a16 a17 a18 a19 a20 a21 a22 a23 a24 a25 a26 a27 a28 a29 a30 a31 a32 a33 a34 a35 a36 a37 a38 a39 a40 a41 a42 a43 a44 a45 a46 a47 a48 a49 a50 h;exact km h
 ·exact h.elim
def Qjm:GM
 | [.agg u0,.ro (.cells u1)],k=>un 51 (fun a0 a1 a2 a3 a4 a5 a6 a7 a8 a9 a10 a11 a12 a13 a14 a15 a16 a17 a18 a19 a20 a21 a22 a23 a24 a25 a26 a27 a28 a29 a30 a31 a32 a33 a34 a35 a36 a37 a38 a39 a40 a41 a42 a43 a44 a45 a46 a47 a48 a49 a50=>un 1 (fun a51 =>
  call Qjl [.agg [a0,a1,a2,a3,a4,a5,a6,a7,a8,a9,a10,a11,a12,a13,a14,a15,a16,a17,a18,a19,a20,a21,a22,a23,a24,a25,a26,a27,a28,a29,a30,a31,a32,a33,a34,a35,a36,a37,a38,a39,a40,a41,a42,a43,a44,a45,a46,a47,a48,a49,a50]] fun o0 =>
  binP .eql (atP o0 0) a51 fun r1 =>
  rt [.sc] [r1] k) u1) u0
 | _,_=>False
abbrev Qjm_e:Ent:=⟨[338],Qjm⟩
theorem Qjm_w:EntOK Tryz.prog TT Qjm_e:=okF_ tabok (L:=[Qjl_e]) ⟨Qjl_w,trivial⟩ (keep:=[]) (l:=[]) Tryz.func338 trivial fun av k h=>by
 unfold Qjm at h;split at h
 ·apply un_all h;clear h;intro a0 a1 a2 a3 a4 a5 a6 a7 a8 a9 a10 a11 a12 a13 a14 a15 a16 a17 a18 a19 a20 a21 a22 a23 a24 a25 a26 a27 a28 a29 a30 a31 a32 a33 a34 a35 a36 a37 a38 a39 a40 a41 a42 a43 a44 a45 a46 a47 a48 a49 a50 h;apply un_all h;clear h;intro a51 h;exact km h
 ·exact h.elim
def Qjn_r0 (v:List PV) (K:List PV→Prop) (x0k:PV→Prop) (x1k:PV→PV→PV→PV→PV→Prop):Prop :=
 un 5 (fun v0 v1 v2 v3 v4 =>
  binP .lss v4 v3 fun r0 =>
  iteP r0
   (elemP 51 v0 v4 fun c1 =>
   call Qjm [.agg [(atP c1 0),(atP c1 1),(atP c1 2),(atP c1 3),(atP c1 4),(atP c1 5),(atP c1 6),(atP c1 7),(atP c1 8),(atP c1 9),(atP c1 10),(atP c1 11),(atP c1 12),(atP c1 13),(atP c1 14),(atP c1 15),(atP c1 16),(atP c1 17),(atP c1 18),(atP c1 19),(atP c1 20),(atP c1 21),(atP c1 22),(atP c1 23),(atP c1 24),(atP c1 25),(atP c1 26),(atP c1 27),(atP c1 28),(atP c1 29),(atP c1 30),(atP c1 31),(atP c1 32),(atP c1 33),(atP c1 34),(atP c1 35),(atP c1 36),(atP c1 37),(atP c1 38),(atP c1 39),(atP c1 40),(atP c1 41),(atP c1 42),(atP c1 43),(atP c1 44),(atP c1 45),(atP c1 46),(atP c1 47),(atP c1 48),(atP c1 49),(atP c1 50)],.ro (.cells [v1])] fun o2 =>
   iteP (atP o2 0)
    (x0k v4)
    (binP .add v4 (I 1) fun r3 =>
    K [v0,v1,v2,v3,r3]))
   (x1k v0 v1 v2 v3 v4)) v
def Qjn:GM
 | [.one a0,.fn 338 [.cells u0]],k=>un 1 (fun a1 =>
  lenP a0 fun r0 =>
  lp (fun L w=>Qjn_r0 w L
   (fun q4=>rt [.sc] [q4] k)
   (fun q5 q6 q7 q8 q9=>rt [.sc] [(I (-1))] k)) [a0,a1,(I 0),r0,(I 0)]) u0
 | _,_=>False
abbrev Qjn_e:Ent:=⟨[389,338],Qjn⟩
def Qjn_l:List LE:=[⟨none,0,⟨[(0,.one zB),(1,.one (.fn 338 [.ro (.cells [(.bool false)])])),(4,.one zB),(7,.one zB),(8,.one zB)],[],[],0,19,[]⟩,fun K k v=>Qjn_r0 v K (fun x0=>k .ret ⟨[(4,.one (.pv x0))],[],[],1,19,[]⟩) (fun x0 x1 x2 x3 x4=>k (.exit 0) ⟨[(0,.one (.pv x0)),(1,.one (.fn 338 [.ro (.cells [x1])])),(4,.one (.pv x2)),(7,.one (.pv x3)),(8,.one (.pv x4))],[],[],0,19,[]⟩)⟩]
theorem Qjn_s:LEsOK [Qjm_e] TT (kk [0,1,4,7,8]) Qjn_l Tryz.f389 Qjn_l:=⟨fun v K k h=>by
 apply un_all h;exact fun v0 v1 v2 v3 v4 h=>km h
 ,trivial⟩
theorem Qjn_w:EntOK Tryz.prog TT Qjn_e:=ok_ tabok (L:=[Qjm_e]) ⟨Qjm_w,trivial⟩ (keep:=(kk [0,1,4,7,8])) (l:=Qjn_l) Tryz.func389 Qjn_s fun av k h=>by
 unfold Qjn at h;split at h
 ·apply un_all h;clear h;intro a1 h;exact km h
 ·exact h.elim
def Qjo:GM
 | [.one a0,.fn 338 [.cells u0]],k=>un 1 (fun a1 =>
  call Qjn [.one a0,.fn 338 [.cells [a1]]] fun o0 =>
  binP .geq (atP o0 0) (I 0) fun r1 =>
  rt [.sc] [r1] k) u0
 | _,_=>False
abbrev Qjo_e:Ent:=⟨[337,338],Qjo⟩
theorem Qjo_w:EntOK Tryz.prog TT Qjo_e:=ok_ tabok (L:=[Qjn_e]) ⟨Qjn_w,trivial⟩ (keep:=[]) (l:=[]) Tryz.func337 trivial fun av k h=>by
 unfold Qjo at h;split at h
 ·apply un_all h;clear h;intro a1 h;exact km h
 ·exact h.elim
def Qjp:GM
 | [.agg u0,.one a2],k=>un 2 (fun a0 a1 =>
  binP .geq a2 (I 0) fun r0 =>
  iteP r0
   (call Qjo [.one a1,.fn 338 [.cells [a2]]] fun o1 =>
   rt [.sc] [(atP o1 0)] k)
   (rt [.sc] [(.bool false)] k)) u0
 | _,_=>False
abbrev Qjp_e:Ent:=⟨[287],Qjp⟩
theorem Qjp_w:EntOK Tryz.prog TT Qjp_e:=okF_ tabok (L:=[Qjo_e]) ⟨Qjo_w,trivial⟩ (keep:=[]) (l:=[]) Tryz.func287 trivial fun av k h=>by
 unfold Qjp at h;split at h
 ·apply un_all h;clear h;intro a0 a1 h;exact km h
 ·exact h.elim
def Qjq_r0 (v:List PV) (K:List PV→Prop) (x0k:PV→PV→PV→PV→PV→PV→PV→PV→PV→PV→PV→PV→PV→PV→PV→PV→PV→PV→Prop) (x1k:PV→PV→PV→PV→PV→PV→PV→PV→PV→PV→PV→PV→PV→PV→PV→PV→PV→PV→Prop) (x2k:PV→PV→PV→PV→PV→PV→PV→PV→PV→PV→PV→PV→PV→PV→PV→PV→PV→PV→Prop) (x3k:PV→PV→PV→PV→PV→PV→PV→PV→PV→PV→PV→PV→PV→PV→PV→PV→PV→PV→Prop) (x4k:PV→PV→PV→PV→PV→PV→PV→PV→PV→PV→PV→PV→PV→PV→PV→PV→PV→PV→PV→PV→PV→PV→PV→PV→PV→Prop):Prop :=
 un 25 (fun v0 v1 v2 v3 v4 v5 v6 v7 v8 v9 v10 v11 v12 v13 v14 v15 v16 v17 v18 v19 v20 v21 v22 v23 v24 =>
  binP .lss v6 v5 fun r0 =>
  iteP r0
   (elemP 21 v4 v6 fun c1 =>
   call Qiz [.one v0,.one v1,.agg [(atP c1 0),(atP c1 1),(atP c1 2),(atP c1 3),(atP c1 4),(atP c1 5),(atP c1 6),(atP c1 7),(atP c1 8),(atP c1 9),(atP c1 10),(atP c1 11),(atP c1 12),(atP c1 13),(atP c1 14),(atP c1 15),(atP c1 16),(atP c1 17),(atP c1 18),(atP c1 19),(atP c1 20)],.one v2] fun o2 =>
   call Qfi [.one (atP c1 0)] fun o3 =>
   iteP (atP o3 0)
    (elemP 17 (atP c1 0) (I 0) fun c4 =>
    binP .eql (atP c4 0) v0 fun r5 =>
    iteP r5
     (call Qjh [.agg [v23,v24],.one (atP c1 0)] fun o6 =>
     call Qdv [.one (atP o6 2),.one (I 1),.one (I 3)] fun o7 =>
     iteP (atP o7 0)
      (call Qjp [.agg [(atP o6 0),(atP o6 1)],.one v0] fun o8 =>
      unP .not (atP o8 0) fun r9 =>
      binP .eql (atP o2 0) (I 1) fun r10 =>
      iteP r10
       (unP .not r9 fun r11 =>
       iteP r11
        ((1=1)∧(1≤16777216)∧(1=1)∧(0=0)∧(1=1)∧(flatCond [.pv (I 0)] [.pv (I 3)])∧catP 1 v21 (.list 1 [[(I 3)]]) fun r12 =>
        binP .eql (I 3) (I 1) fun r13 =>
        iteP r13
         (call Qdn [.agg [(atP c1 2),(atP c1 3),(atP c1 4),(atP c1 5)]] fun o14 =>
         ((((((x0k v6 (atP c1 1) (atP o14 0) (atP o14 1) (atP o14 2) v12 v13 v14 v15 v16 (atP o14 3) r12 (atP o6 0) (atP o6 1) v17 v18 v19 v20)∧True)∧True)∧True)∧True)∧True)∧((((((x0k v6 (atP c1 1) (atP o14 0) (atP o14 1) (atP o14 2) v12 v13 v14 v15 v16 (atP o14 3) r12 (atP o6 0) (atP o6 1) v17 v18 v19 v20)∧True)∧True)∧True)∧True)∧True)∧True)
         (binP .add v6 (I 1) fun r15 =>
         K [v0,v1,v2,v3,v4,v5,r15,v7,v8,v9,v10,v11,v12,v13,v14,v15,v16,v17,v18,v19,v20,r12,v22,(atP o6 0),(atP o6 1)]))
        ((1=1)∧(1≤16777216)∧(1=1)∧(0=0)∧(1=1)∧(flatCond [.pv (I 0)] [.pv (atP o2 0)])∧catP 1 v21 (.list 1 [[(atP o2 0)]]) fun r16 =>
        binP .eql (atP o2 0) (I 1) fun r17 =>
        iteP r17
         (call Qdn [.agg [(atP c1 2),(atP c1 3),(atP c1 4),(atP c1 5)]] fun o18 =>
         ((((((x0k v6 (atP c1 1) (atP o18 0) (atP o18 1) (atP o18 2) v12 v13 v14 v15 v16 (atP o18 3) r16 (atP o6 0) (atP o6 1) v17 v18 v19 v20)∧True)∧True)∧True)∧True)∧True)∧((((((x0k v6 (atP c1 1) (atP o18 0) (atP o18 1) (atP o18 2) v12 v13 v14 v15 v16 (atP o18 3) r16 (atP o6 0) (atP o6 1) v17 v18 v19 v20)∧True)∧True)∧True)∧True)∧True)∧True)
         (binP .add v6 (I 1) fun r19 =>
         K [v0,v1,v2,v3,v4,v5,r19,v7,v8,v9,v10,v11,v12,v13,v14,v15,v16,v17,v18,v19,v20,r16,v22,(atP o6 0),(atP o6 1)])))
       ((1=1)∧(1≤16777216)∧(1=1)∧(0=0)∧(1=1)∧(flatCond [.pv (I 0)] [.pv (atP o2 0)])∧catP 1 v21 (.list 1 [[(atP o2 0)]]) fun r20 =>
       binP .eql (atP o2 0) (I 1) fun r21 =>
       iteP r21
        (call Qdn [.agg [(atP c1 2),(atP c1 3),(atP c1 4),(atP c1 5)]] fun o22 =>
        ((((((x0k v6 (atP c1 1) (atP o22 0) (atP o22 1) (atP o22 2) v12 v13 v14 v15 v16 (atP o22 3) r20 (atP o6 0) (atP o6 1) v17 v18 v19 v20)∧True)∧True)∧True)∧True)∧True)∧((((((x0k v6 (atP c1 1) (atP o22 0) (atP o22 1) (atP o22 2) v12 v13 v14 v15 v16 (atP o22 3) r20 (atP o6 0) (atP o6 1) v17 v18 v19 v20)∧True)∧True)∧True)∧True)∧True)∧True)
        (binP .add v6 (I 1) fun r23 =>
        K [v0,v1,v2,v3,v4,v5,r23,v7,v8,v9,v10,v11,v12,v13,v14,v15,v16,v17,v18,v19,v20,r20,v22,(atP o6 0),(atP o6 1)])))
      (binP .eql (atP o2 0) (I 1) fun r24 =>
      iteP r24
       ((1=1)∧(1≤16777216)∧(1=1)∧(0=0)∧(1=1)∧(flatCond [.pv (I 0)] [.pv (I 3)])∧catP 1 v21 (.list 1 [[(I 3)]]) fun r25 =>
       binP .eql (I 3) (I 1) fun r26 =>
       iteP r26
        (call Qdn [.agg [(atP c1 2),(atP c1 3),(atP c1 4),(atP c1 5)]] fun o27 =>
        ((((((x1k v6 (atP c1 1) (atP o27 0) (atP o27 1) (atP o27 2) v12 v13 v14 v15 v16 (atP o27 3) r25 (atP o6 0) (atP o6 1) v17 v18 v19 v20)∧True)∧True)∧True)∧True)∧True)∧((((((x1k v6 (atP c1 1) (atP o27 0) (atP o27 1) (atP o27 2) v12 v13 v14 v15 v16 (atP o27 3) r25 (atP o6 0) (atP o6 1) v17 v18 v19 v20)∧True)∧True)∧True)∧True)∧True)∧True)
        (binP .add v6 (I 1) fun r28 =>
        K [v0,v1,v2,v3,v4,v5,r28,v7,v8,v9,v10,v11,v12,v13,v14,v15,v16,v17,v18,v19,v20,r25,v22,(atP o6 0),(atP o6 1)]))
       ((1=1)∧(1≤16777216)∧(1=1)∧(0=0)∧(1=1)∧(flatCond [.pv (I 0)] [.pv (atP o2 0)])∧catP 1 v21 (.list 1 [[(atP o2 0)]]) fun r29 =>
       binP .eql (atP o2 0) (I 1) fun r30 =>
       iteP r30
        (call Qdn [.agg [(atP c1 2),(atP c1 3),(atP c1 4),(atP c1 5)]] fun o31 =>
        ((((((x1k v6 (atP c1 1) (atP o31 0) (atP o31 1) (atP o31 2) v12 v13 v14 v15 v16 (atP o31 3) r29 (atP o6 0) (atP o6 1) v17 v18 v19 v20)∧True)∧True)∧True)∧True)∧True)∧((((((x1k v6 (atP c1 1) (atP o31 0) (atP o31 1) (atP o31 2) v12 v13 v14 v15 v16 (atP o31 3) r29 (atP o6 0) (atP o6 1) v17 v18 v19 v20)∧True)∧True)∧True)∧True)∧True)∧True)
        (binP .add v6 (I 1) fun r32 =>
        K [v0,v1,v2,v3,v4,v5,r32,v7,v8,v9,v10,v11,v12,v13,v14,v15,v16,v17,v18,v19,v20,r29,v22,(atP o6 0),(atP o6 1)]))))
     (call Qdv [.one (I 6),.one (I 1),.one (I 3)] fun o33 =>
     iteP (atP o33 0)
      (call Qjp [.agg [v23,v24],.one v0] fun o34 =>
      unP .not (atP o34 0) fun r35 =>
      binP .eql (atP o2 0) (I 1) fun r36 =>
      iteP r36
       (unP .not r35 fun r37 =>
       iteP r37
        ((1=1)∧(1≤16777216)∧(1=1)∧(0=0)∧(1=1)∧(flatCond [.pv (I 0)] [.pv (I 3)])∧catP 1 v21 (.list 1 [[(I 3)]]) fun r38 =>
        binP .eql (I 3) (I 1) fun r39 =>
        iteP r39
         (call Qdn [.agg [(atP c1 2),(atP c1 3),(atP c1 4),(atP c1 5)]] fun o40 =>
         ((((((x2k v6 (atP c1 1) (atP o40 0) (atP o40 1) (atP o40 2) v12 v13 v14 v15 v16 (atP o40 3) r38 v17 v18 v19 v20 v23 v24)∧True)∧True)∧True)∧True)∧True)∧((((((x2k v6 (atP c1 1) (atP o40 0) (atP o40 1) (atP o40 2) v12 v13 v14 v15 v16 (atP o40 3) r38 v17 v18 v19 v20 v23 v24)∧True)∧True)∧True)∧True)∧True)∧True)
         (binP .add v6 (I 1) fun r41 =>
         K [v0,v1,v2,v3,v4,v5,r41,v7,v8,v9,v10,v11,v12,v13,v14,v15,v16,v17,v18,v19,v20,r38,v22,v23,v24]))
        ((1=1)∧(1≤16777216)∧(1=1)∧(0=0)∧(1=1)∧(flatCond [.pv (I 0)] [.pv (atP o2 0)])∧catP 1 v21 (.list 1 [[(atP o2 0)]]) fun r42 =>
        binP .eql (atP o2 0) (I 1) fun r43 =>
        iteP r43
         (call Qdn [.agg [(atP c1 2),(atP c1 3),(atP c1 4),(atP c1 5)]] fun o44 =>
         ((((((x2k v6 (atP c1 1) (atP o44 0) (atP o44 1) (atP o44 2) v12 v13 v14 v15 v16 (atP o44 3) r42 v17 v18 v19 v20 v23 v24)∧True)∧True)∧True)∧True)∧True)∧((((((x2k v6 (atP c1 1) (atP o44 0) (atP o44 1) (atP o44 2) v12 v13 v14 v15 v16 (atP o44 3) r42 v17 v18 v19 v20 v23 v24)∧True)∧True)∧True)∧True)∧True)∧True)
         (binP .add v6 (I 1) fun r45 =>
         K [v0,v1,v2,v3,v4,v5,r45,v7,v8,v9,v10,v11,v12,v13,v14,v15,v16,v17,v18,v19,v20,r42,v22,v23,v24])))
       ((1=1)∧(1≤16777216)∧(1=1)∧(0=0)∧(1=1)∧(flatCond [.pv (I 0)] [.pv (atP o2 0)])∧catP 1 v21 (.list 1 [[(atP o2 0)]]) fun r46 =>
       binP .eql (atP o2 0) (I 1) fun r47 =>
       iteP r47
        (call Qdn [.agg [(atP c1 2),(atP c1 3),(atP c1 4),(atP c1 5)]] fun o48 =>
        ((((((x2k v6 (atP c1 1) (atP o48 0) (atP o48 1) (atP o48 2) v12 v13 v14 v15 v16 (atP o48 3) r46 v17 v18 v19 v20 v23 v24)∧True)∧True)∧True)∧True)∧True)∧((((((x2k v6 (atP c1 1) (atP o48 0) (atP o48 1) (atP o48 2) v12 v13 v14 v15 v16 (atP o48 3) r46 v17 v18 v19 v20 v23 v24)∧True)∧True)∧True)∧True)∧True)∧True)
        (binP .add v6 (I 1) fun r49 =>
        K [v0,v1,v2,v3,v4,v5,r49,v7,v8,v9,v10,v11,v12,v13,v14,v15,v16,v17,v18,v19,v20,r46,v22,v23,v24])))
      (binP .eql (atP o2 0) (I 1) fun r50 =>
      iteP r50
       ((1=1)∧(1≤16777216)∧(1=1)∧(0=0)∧(1=1)∧(flatCond [.pv (I 0)] [.pv (I 3)])∧catP 1 v21 (.list 1 [[(I 3)]]) fun r51 =>
       binP .eql (I 3) (I 1) fun r52 =>
       iteP r52
        (call Qdn [.agg [(atP c1 2),(atP c1 3),(atP c1 4),(atP c1 5)]] fun o53 =>
        ((((((x3k v6 (atP c1 1) (atP o53 0) (atP o53 1) (atP o53 2) v12 v13 v14 v15 v16 (atP o53 3) r51 v17 v18 v19 v20 v23 v24)∧True)∧True)∧True)∧True)∧True)∧((((((x3k v6 (atP c1 1) (atP o53 0) (atP o53 1) (atP o53 2) v12 v13 v14 v15 v16 (atP o53 3) r51 v17 v18 v19 v20 v23 v24)∧True)∧True)∧True)∧True)∧True)∧True)
        (binP .add v6 (I 1) fun r54 =>
        K [v0,v1,v2,v3,v4,v5,r54,v7,v8,v9,v10,v11,v12,v13,v14,v15,v16,v17,v18,v19,v20,r51,v22,v23,v24]))
       ((1=1)∧(1≤16777216)∧(1=1)∧(0=0)∧(1=1)∧(flatCond [.pv (I 0)] [.pv (atP o2 0)])∧catP 1 v21 (.list 1 [[(atP o2 0)]]) fun r55 =>
       binP .eql (atP o2 0) (I 1) fun r56 =>
       iteP r56
        (call Qdn [.agg [(atP c1 2),(atP c1 3),(atP c1 4),(atP c1 5)]] fun o57 =>
        ((((((x3k v6 (atP c1 1) (atP o57 0) (atP o57 1) (atP o57 2) v12 v13 v14 v15 v16 (atP o57 3) r55 v17 v18 v19 v20 v23 v24)∧True)∧True)∧True)∧True)∧True)∧((((((x3k v6 (atP c1 1) (atP o57 0) (atP o57 1) (atP o57 2) v12 v13 v14 v15 v16 (atP o57 3) r55 v17 v18 v19 v20 v23 v24)∧True)∧True)∧True)∧True)∧True)∧True)
        (binP .add v6 (I 1) fun r58 =>
        K [v0,v1,v2,v3,v4,v5,r58,v7,v8,v9,v10,v11,v12,v13,v14,v15,v16,v17,v18,v19,v20,r55,v22,v23,v24])))))
    (call Qdv [.one (I 6),.one (I 1),.one (I 3)] fun o59 =>
    iteP (atP o59 0)
     (call Qjp [.agg [v23,v24],.one v0] fun o60 =>
     unP .not (atP o60 0) fun r61 =>
     binP .eql (atP o2 0) (I 1) fun r62 =>
     iteP r62
      (unP .not r61 fun r63 =>
      iteP r63
       ((1=1)∧(1≤16777216)∧(1=1)∧(0=0)∧(1=1)∧(flatCond [.pv (I 0)] [.pv (I 3)])∧catP 1 v21 (.list 1 [[(I 3)]]) fun r64 =>
       binP .eql (I 3) (I 1) fun r65 =>
       iteP r65
        (call Qdn [.agg [(atP c1 2),(atP c1 3),(atP c1 4),(atP c1 5)]] fun o66 =>
        ((((((x2k v6 (atP c1 1) (atP o66 0) (atP o66 1) (atP o66 2) v12 v13 v14 v15 v16 (atP o66 3) r64 v17 v18 v19 v20 v23 v24)∧True)∧True)∧True)∧True)∧True)∧((((((x2k v6 (atP c1 1) (atP o66 0) (atP o66 1) (atP o66 2) v12 v13 v14 v15 v16 (atP o66 3) r64 v17 v18 v19 v20 v23 v24)∧True)∧True)∧True)∧True)∧True)∧True)
        (binP .add v6 (I 1) fun r67 =>
        K [v0,v1,v2,v3,v4,v5,r67,v7,v8,v9,v10,v11,v12,v13,v14,v15,v16,v17,v18,v19,v20,r64,v22,v23,v24]))
       ((1=1)∧(1≤16777216)∧(1=1)∧(0=0)∧(1=1)∧(flatCond [.pv (I 0)] [.pv (atP o2 0)])∧catP 1 v21 (.list 1 [[(atP o2 0)]]) fun r68 =>
       binP .eql (atP o2 0) (I 1) fun r69 =>
       iteP r69
        (call Qdn [.agg [(atP c1 2),(atP c1 3),(atP c1 4),(atP c1 5)]] fun o70 =>
        ((((((x2k v6 (atP c1 1) (atP o70 0) (atP o70 1) (atP o70 2) v12 v13 v14 v15 v16 (atP o70 3) r68 v17 v18 v19 v20 v23 v24)∧True)∧True)∧True)∧True)∧True)∧((((((x2k v6 (atP c1 1) (atP o70 0) (atP o70 1) (atP o70 2) v12 v13 v14 v15 v16 (atP o70 3) r68 v17 v18 v19 v20 v23 v24)∧True)∧True)∧True)∧True)∧True)∧True)
        (binP .add v6 (I 1) fun r71 =>
        K [v0,v1,v2,v3,v4,v5,r71,v7,v8,v9,v10,v11,v12,v13,v14,v15,v16,v17,v18,v19,v20,r68,v22,v23,v24])))
      ((1=1)∧(1≤16777216)∧(1=1)∧(0=0)∧(1=1)∧(flatCond [.pv (I 0)] [.pv (atP o2 0)])∧catP 1 v21 (.list 1 [[(atP o2 0)]]) fun r72 =>
      binP .eql (atP o2 0) (I 1) fun r73 =>
      iteP r73
       (call Qdn [.agg [(atP c1 2),(atP c1 3),(atP c1 4),(atP c1 5)]] fun o74 =>
       ((((((x2k v6 (atP c1 1) (atP o74 0) (atP o74 1) (atP o74 2) v12 v13 v14 v15 v16 (atP o74 3) r72 v17 v18 v19 v20 v23 v24)∧True)∧True)∧True)∧True)∧True)∧((((((x2k v6 (atP c1 1) (atP o74 0) (atP o74 1) (atP o74 2) v12 v13 v14 v15 v16 (atP o74 3) r72 v17 v18 v19 v20 v23 v24)∧True)∧True)∧True)∧True)∧True)∧True)
       (binP .add v6 (I 1) fun r75 =>
       K [v0,v1,v2,v3,v4,v5,r75,v7,v8,v9,v10,v11,v12,v13,v14,v15,v16,v17,v18,v19,v20,r72,v22,v23,v24])))
     (binP .eql (atP o2 0) (I 1) fun r76 =>
     iteP r76
      ((1=1)∧(1≤16777216)∧(1=1)∧(0=0)∧(1=1)∧(flatCond [.pv (I 0)] [.pv (I 3)])∧catP 1 v21 (.list 1 [[(I 3)]]) fun r77 =>
      binP .eql (I 3) (I 1) fun r78 =>
      iteP r78
       (call Qdn [.agg [(atP c1 2),(atP c1 3),(atP c1 4),(atP c1 5)]] fun o79 =>
       ((((((x3k v6 (atP c1 1) (atP o79 0) (atP o79 1) (atP o79 2) v12 v13 v14 v15 v16 (atP o79 3) r77 v17 v18 v19 v20 v23 v24)∧True)∧True)∧True)∧True)∧True)∧((((((x3k v6 (atP c1 1) (atP o79 0) (atP o79 1) (atP o79 2) v12 v13 v14 v15 v16 (atP o79 3) r77 v17 v18 v19 v20 v23 v24)∧True)∧True)∧True)∧True)∧True)∧True)
       (binP .add v6 (I 1) fun r80 =>
       K [v0,v1,v2,v3,v4,v5,r80,v7,v8,v9,v10,v11,v12,v13,v14,v15,v16,v17,v18,v19,v20,r77,v22,v23,v24]))
      ((1=1)∧(1≤16777216)∧(1=1)∧(0=0)∧(1=1)∧(flatCond [.pv (I 0)] [.pv (atP o2 0)])∧catP 1 v21 (.list 1 [[(atP o2 0)]]) fun r81 =>
      binP .eql (atP o2 0) (I 1) fun r82 =>
      iteP r82
       (call Qdn [.agg [(atP c1 2),(atP c1 3),(atP c1 4),(atP c1 5)]] fun o83 =>
       ((((((x3k v6 (atP c1 1) (atP o83 0) (atP o83 1) (atP o83 2) v12 v13 v14 v15 v16 (atP o83 3) r81 v17 v18 v19 v20 v23 v24)∧True)∧True)∧True)∧True)∧True)∧((((((x3k v6 (atP c1 1) (atP o83 0) (atP o83 1) (atP o83 2) v12 v13 v14 v15 v16 (atP o83 3) r81 v17 v18 v19 v20 v23 v24)∧True)∧True)∧True)∧True)∧True)∧True)
       (binP .add v6 (I 1) fun r84 =>
       K [v0,v1,v2,v3,v4,v5,r84,v7,v8,v9,v10,v11,v12,v13,v14,v15,v16,v17,v18,v19,v20,r81,v22,v23,v24])))))
   (x4k v0 v1 v2 v3 v4 v5 v6 v7 v8 v9 v10 v11 v12 v13 v14 v15 v16 v17 v18 v19 v20 v21 v22 v23 v24)) v
def Qjq:GM
 | [.agg u0,.one a2,.one a3,.one a4,.one a5],k=>un 2 (fun a0 a1 =>
  call Qdp [.agg [a0,a1]] fun o0 =>
  lenP a2 fun r1 =>
  lp (fun L w=>Qjq_r0 w L
   (fun q85 q86 q87 q88 q89 q90 q91 q92 q93 q94 q95 q96 q97 q98 q99 q100 q101 q102=>rt [.own true 90 1,.own true 259 51,.sc,.sc,.sc,.sc,.own true 9 1,.sc,.own true 3 1,.sc] [q97,q98,q86,q87,q88,q89,q95,(.bool true),q96,q85] k)
   (fun q103 q104 q105 q106 q107 q108 q109 q110 q111 q112 q113 q114 q115 q116 q117 q118 q119 q120=>rt [.own true 90 1,.own true 259 51,.sc,.sc,.sc,.sc,.own true 9 1,.sc,.own true 3 1,.sc] [q115,q116,q104,q105,q106,q107,q113,(.bool true),q114,q103] k)
   (fun q121 q122 q123 q124 q125 q126 q127 q128 q129 q130 q131 q132 q133 q134 q135 q136 q137 q138=>rt [.own true 90 1,.own true 259 51,.sc,.sc,.sc,.sc,.own true 9 1,.sc,.own true 3 1,.sc] [q137,q138,q122,q123,q124,q125,q131,(.bool true),q132,q121] k)
   (fun q139 q140 q141 q142 q143 q144 q145 q146 q147 q148 q149 q150 q151 q152 q153 q154 q155 q156=>rt [.own true 90 1,.own true 259 51,.sc,.sc,.sc,.sc,.own true 9 1,.sc,.own true 3 1,.sc] [q155,q156,q140,q141,q142,q143,q149,(.bool true),q150,q139] k)
   (fun q157 q158 q159 q160 q161 q162 q163 q164 q165 q166 q167 q168 q169 q170 q171 q172 q173 q174 q175 q176 q177 q178 q179 q180 q181=>rt [.own true 90 1,.own true 259 51,.sc,.sc,.sc,.sc,.own true 9 1,.sc,.own true 3 1,.sc] [q180,q181,q164,q165,q166,q167,q179,q168,q178,(I (-1))] k)) [a3,a4,a5,(I 0),a2,r1,(I 0),(.bool false),(.str ⟨#[]⟩),(I 0),(I 0),(.bool false),(.bool false),(.str ⟨#[]⟩),(I 0),(I 0),(.bool false),(.list 1 []),(.list 1 []),(.list 51 []),(.list 1 []),(.list 1 []),(.list 1 []),(atP o0 0),(atP o0 1)]) u0
 | _,_=>False
abbrev Qjq_e:Ent:=⟨[163],Qjq⟩
def Qjq_l:List LE:=[⟨none,0,⟨[(2,.one zB),(3,.one zB),(4,.one zB),(10,.one (.ptr 1 0)),(11,.one zB),(12,.one (.ptr 4 0)),(18,.one zB),(19,.one zB),(20,.one zB)],[(4,[.own 2,.own 3,zB,zB,zB,zB,.own 5,zB,.own 6]),(1,[.own 7,.own 8,zB,zB,zB,zB,.own 9,zB,.own 10])],[(10,⟨.deep,3,1,(.bool false)⟩),(9,⟨.deep,9,1,(.bool false)⟩),(8,⟨.deep,259,51,(.bool false)⟩),(7,⟨.deep,90,1,(.bool false)⟩),(6,⟨.deep,3,1,(.bool false)⟩),(5,⟨.deep,9,1,(.bool false)⟩),(2,⟨.deep,90,1,(.bool false)⟩),(3,⟨.deep,259,51,(.bool false)⟩)],11,42,[]⟩,fun K k v=>Qjq_r0 v K (fun x0 x1 x2 x3 x4 x5 x6 x7 x8 x9 x10 x11 x12 x13 x14 x15 x16 x17=>k .ret ⟨[(10,.one (.ptr 1 0)),(11,.one (.pv x0))],[(1,[.own 15,.own 16,.pv x1,.pv x2,.pv x3,.pv x4,.own 25,.kb true,.own 21]),(1,[.own 7,.own 8,.pv x5,.pv x6,.pv x7,.pv x8,.own 9,.pv x9,.own 10])],[(25,⟨.deep,9,1,x10⟩),(21,⟨.deep,3,1,x11⟩),(15,⟨.deep,90,1,x12⟩),(16,⟨.deep,259,51,x13⟩),(10,⟨.deep,3,1,x14⟩),(9,⟨.deep,9,1,x15⟩),(8,⟨.deep,259,51,x16⟩),(7,⟨.deep,90,1,x17⟩)],26,42,[]⟩) (fun x0 x1 x2 x3 x4 x5 x6 x7 x8 x9 x10 x11 x12 x13 x14 x15 x16 x17=>k .ret ⟨[(10,.one (.ptr 1 0)),(11,.one (.pv x0))],[(1,[.own 15,.own 16,.pv x1,.pv x2,.pv x3,.pv x4,.own 24,.kb true,.own 20]),(1,[.own 7,.own 8,.pv x5,.pv x6,.pv x7,.pv x8,.own 9,.pv x9,.own 10])],[(24,⟨.deep,9,1,x10⟩),(20,⟨.deep,3,1,x11⟩),(15,⟨.deep,90,1,x12⟩),(16,⟨.deep,259,51,x13⟩),(10,⟨.deep,3,1,x14⟩),(9,⟨.deep,9,1,x15⟩),(8,⟨.deep,259,51,x16⟩),(7,⟨.deep,90,1,x17⟩)],25,42,[]⟩) (fun x0 x1 x2 x3 x4 x5 x6 x7 x8 x9 x10 x11 x12 x13 x14 x15 x16 x17=>k .ret ⟨[(10,.one (.ptr 1 0)),(11,.one (.pv x0))],[(1,[.own 2,.own 3,.pv x1,.pv x2,.pv x3,.pv x4,.own 22,.kb true,.own 18]),(1,[.own 7,.own 8,.pv x5,.pv x6,.pv x7,.pv x8,.own 9,.pv x9,.own 10])],[(22,⟨.deep,9,1,x10⟩),(18,⟨.deep,3,1,x11⟩),(10,⟨.deep,3,1,x12⟩),(9,⟨.deep,9,1,x13⟩),(8,⟨.deep,259,51,x14⟩),(7,⟨.deep,90,1,x15⟩),(2,⟨.deep,90,1,x16⟩),(3,⟨.deep,259,51,x17⟩)],23,42,[]⟩) (fun x0 x1 x2 x3 x4 x5 x6 x7 x8 x9 x10 x11 x12 x13 x14 x15 x16 x17=>k .ret ⟨[(10,.one (.ptr 1 0)),(11,.one (.pv x0))],[(1,[.own 2,.own 3,.pv x1,.pv x2,.pv x3,.pv x4,.own 21,.kb true,.own 17]),(1,[.own 7,.own 8,.pv x5,.pv x6,.pv x7,.pv x8,.own 9,.pv x9,.own 10])],[(21,⟨.deep,9,1,x10⟩),(17,⟨.deep,3,1,x11⟩),(10,⟨.deep,3,1,x12⟩),(9,⟨.deep,9,1,x13⟩),(8,⟨.deep,259,51,x14⟩),(7,⟨.deep,90,1,x15⟩),(2,⟨.deep,90,1,x16⟩),(3,⟨.deep,259,51,x17⟩)],22,42,[]⟩) (fun x0 x1 x2 x3 x4 x5 x6 x7 x8 x9 x10 x11 x12 x13 x14 x15 x16 x17 x18 x19 x20 x21 x22 x23 x24=>k (.exit 0) ⟨[(2,.one (.pv x0)),(3,.one (.pv x1)),(4,.one (.pv x2)),(10,.one (.ptr 1 0)),(11,.one (.pv x3)),(12,.one (.ptr 4 0)),(18,.one (.pv x4)),(19,.one (.pv x5)),(20,.one (.pv x6))],[(4,[.own 2,.own 3,.pv x7,.pv x8,.pv x9,.pv x10,.own 5,.pv x11,.own 6]),(1,[.own 7,.own 8,.pv x12,.pv x13,.pv x14,.pv x15,.own 9,.pv x16,.own 10])],[(10,⟨.deep,3,1,x17⟩),(9,⟨.deep,9,1,x18⟩),(8,⟨.deep,259,51,x19⟩),(7,⟨.deep,90,1,x20⟩),(6,⟨.deep,3,1,x21⟩),(5,⟨.deep,9,1,x22⟩),(2,⟨.deep,90,1,x23⟩),(3,⟨.deep,259,51,x24⟩)],11,42,[]⟩)⟩]
theorem Qjq_s:LEsOK [Qdp_e,Qiz_e,Qfi_e,Qjh_e,Qdv_e,Qjp_e,Qdn_e] TT.nofl (kk [2,3,4,10,11,12,18,19,20,999999]) Qjq_l Tryz.f163 Qjq_l:=⟨fun v K k h=>by
 apply un_all h;exact fun v0 v1 v2 v3 v4 v5 v6 v7 v8 v9 v10 v11 v12 v13 v14 v15 v16 v17 v18 v19 v20 v21 v22 v23 v24 h=>km h
 ,trivial⟩
theorem Qjq_w:EntOK Tryz.prog TT Qjq_e:=okF_ tabok (L:=[Qdp_e,Qiz_e,Qfi_e,Qjh_e,Qdv_e,Qjp_e,Qdn_e]) ⟨Qdp_w,Qiz_w,Qfi_w,Qjh_w,Qdv_w,Qjp_w,Qdn_w,trivial⟩ (keep:=(kk [2,3,4,10,11,12,18,19,20,999999])) (l:=Qjq_l) Tryz.func163 Qjq_s fun av k h=>by
 unfold Qjq at h;split at h
 ·apply un_all h;clear h;intro a0 a1 h;exact km h
 ·exact h.elim
def Qjr:GM
 | [.agg u0,.one a3],k=>un 3 (fun a0 a1 a2 =>
  call Qag [.one a1,.one a3] fun o0 =>
  binP .lss (atP o0 0) (I 0) fun r1 =>
  iteP r1
   (rt [.sc] [(I (-1))] k)
   (call Qam [.one a2,.one (atP o0 0)] fun o2 =>
   binP .lss (atP o2 0) (I 0) fun r3 =>
   iteP r3
    (rt [.sc] [(I (-1))] k)
    (rt [.sc] [(atP o2 0)] k))) u0
 | _,_=>False
abbrev Qjr_e:Ent:=⟨[10],Qjr⟩
theorem Qjr_w:EntOK Tryz.prog TT Qjr_e:=okF_ tabok (L:=[Qag_e,Qam_e]) ⟨Qag_w,Qam_w,trivial⟩ (keep:=[]) (l:=[]) Tryz.func10 trivial fun av k h=>by
 unfold Qjr at h;split at h
 ·apply un_all h;clear h;intro a0 a1 a2 h;exact km h
 ·exact h.elim
def Qjs:GM
 | [.agg u0],k=>un 3 (fun a0 a1 a2 =>
  call Qau [.one a1] fun o0 =>
  call Qba [.one a2] fun o1 =>
  rt [.sc,.own true 9 1,.own true 221 23] [a0,(atP o0 0),(atP o1 0)] k) u0
 | _,_=>False
abbrev Qjs_e:Ent:=⟨[12],Qjs⟩
theorem Qjs_w:EntOK Tryz.prog TT Qjs_e:=okF_ tabok (L:=[Qau_e,Qba_e]) ⟨Qau_w,Qba_w,trivial⟩ (keep:=[]) (l:=[]) Tryz.func12 trivial fun av k h=>by
 unfold Qjs at h;split at h
 ·apply un_all h;clear h;intro a0 a1 a2 h;exact km h
 ·exact h.elim
def Qjt_r0 (v:List PV) (K:List PV→Prop) (x0k:PV→Prop) (x1k:PV→PV→PV→PV→PV→Prop):Prop :=
 un 5 (fun v0 v1 v2 v3 v4 =>
  lenP v4 fun r0 =>
  binP .lss v3 r0 fun r1 =>
  iteP r1
   (elemP 23 v4 v3 fun c2 =>
   binP .eql (atP c2 0) v0 fun r3 =>
   iteP r3
    (elemP 23 v4 v3 fun c4 =>
    binP .eql (atP c4 1) v1 fun r5 =>
    iteP r5
     (x0k v3)
     (binP .add v3 (I 1) fun r6 =>
     K [v0,v1,v2,r6,v4]))
    (binP .add v3 (I 1) fun r7 =>
    K [v0,v1,v2,r7,v4]))
   (x1k v0 v1 v2 v3 v4)) v
def Qjt:GM
 | [.agg u0,.one a1,.one a2],k=>un 1 (fun a0 =>
  lp (fun L w=>Qjt_r0 w L
   (fun q8=>rt [.sc] [q8] k)
   (fun q9 q10 q11 q12 q13=>rt [.sc] [(I (-1))] k)) [a1,a2,(I 0),(I 0),a0]) u0
 | _,_=>False
abbrev Qjt_e:Ent:=⟨[223],Qjt⟩
def Qjt_l:List LE:=[⟨none,0,⟨[(1,.one zB),(2,.one zB),(3,.one (.ptr 0 0)),(6,.one zB),(7,.one zB)],[(0,[zB])],[],1,34,[]⟩,fun K k v=>Qjt_r0 v K (fun x0=>k .ret ⟨[(6,.one (.pv x0))],[],[],1,34,[]⟩) (fun x0 x1 x2 x3 x4=>k (.exit 0) ⟨[(1,.one (.pv x0)),(2,.one (.pv x1)),(3,.one (.ptr 0 0)),(6,.one (.pv x2)),(7,.one (.pv x3))],[(0,[.pv x4])],[],1,34,[]⟩)⟩]
theorem Qjt_s:LEsOK [] TT (kk [1,2,3,6,7,24,25,26,27,28,29,30,31,999999]) Qjt_l Tryz.f223 Qjt_l:=⟨fun v K k h=>by
 apply un_all h;exact fun v0 v1 v2 v3 v4 h=>km h
 ,trivial⟩
theorem Qjt_w:EntOK Tryz.prog TT Qjt_e:=ok_ tabok (L:=[]) trivial (keep:=(kk [1,2,3,6,7,24,25,26,27,28,29,30,31,999999])) (l:=Qjt_l) Tryz.func223 Qjt_s fun av k h=>by
 unfold Qjt at h;split at h
 ·apply un_all h;clear h;intro a0 h;exact km h
 ·exact h.elim
def Qju:GM
 | [.agg u0,.one a1,.one a2],k=>un 1 (fun a0 =>
  call Qjt [.agg [a0],.one a1,.one a2] fun o0 =>
  binP .lss (atP o0 0) (I 0) fun r1 =>
  iteP r1
   (rt [.pv,.sc,.sc,.sc,.sc,.pv,.sc,.pv,.sc,.sc,.sc,.sc,.pv,.sc,.sc,.sc,.pv,.sc,.pv,.sc,.pv] [(.list 17 []),(.bool false),(.str ⟨#[]⟩),(I 0),(I 0),(.list 1 []),(I 0),(.list 1 []),(I 0),(.str ⟨#[]⟩),(I 0),(I 0),(.list 1 []),(.str ⟨#[]⟩),(I 0),(I 0),(.list 1 []),(I 0),(.list 1 []),(I 0),(.list 1 [])] k)
   (elemP 23 a0 (atP o0 0) fun c2 =>
   call Qbl [.agg [(atP c2 2),(atP c2 3),(atP c2 4),(atP c2 5),(atP c2 6),(atP c2 7),(atP c2 8),(atP c2 9),(atP c2 10),(atP c2 11),(atP c2 12),(atP c2 13),(atP c2 14),(atP c2 15),(atP c2 16),(atP c2 17),(atP c2 18),(atP c2 19),(atP c2 20),(atP c2 21),(atP c2 22)]] fun o3 =>
   rt [.pv,.sc,.sc,.sc,.sc,.pv,.sc,.pv,.sc,.sc,.sc,.sc,.pv,.sc,.sc,.sc,.pv,.sc,.pv,.sc,.pv] [(atP o3 0),(atP o3 1),(atP o3 2),(atP o3 3),(atP o3 4),(atP o3 5),(atP o3 6),(atP o3 7),(atP o3 8),(atP o3 9),(atP o3 10),(atP o3 11),(atP o3 12),(atP o3 13),(atP o3 14),(atP o3 15),(atP o3 16),(atP o3 17),(atP o3 18),(atP o3 19),(atP o3 20)] k)) u0
 | _,_=>False
abbrev Qju_e:Ent:=⟨[153],Qju⟩
theorem Qju_w:EntOK Tryz.prog TT Qju_e:=ok_ tabok (L:=[Qjt_e,Qbl_e]) ⟨Qjt_w,Qbl_w,trivial⟩ (keep:=[]) (l:=[]) Tryz.func153 trivial fun av k h=>by
 unfold Qju at h;split at h
 ·apply un_all h;clear h;intro a0 h;exact km h
 ·exact h.elim
def Qjv_r0 (v:List PV) (K:List PV→Prop) (x0k:PV→PV→PV→PV→PV→PV→PV→Prop) (x1k:PV→PV→PV→PV→PV→PV→Prop):Prop :=
 un 6 (fun v0 v1 v2 v3 v4 v5 =>
  lenP v0 fun r0 =>
  binP .lss v3 r0 fun r1 =>
  iteP r1
   (binP .lss v3 (I 4) fun r2 =>
   iteP r2
    (elemP 2 v0 v3 fun c3 =>
    call Qhd [.agg [(atP c3 0),(atP c3 1)],.one v1,.one v2] fun o4 =>
    (1=1)∧(21≤16777216)∧(21=21)∧(0=0)∧(21=21)∧catP 21 v5 (.list 21 [[(atP o4 0),(atP o4 1),(atP o4 2),(atP o4 3),(atP o4 4),(atP o4 5),(atP o4 6),(atP o4 7),(atP o4 8),(atP o4 9),(atP o4 10),(atP o4 11),(atP o4 12),(atP o4 13),(atP o4 14),(atP o4 15),(atP o4 16),(atP o4 17),(atP o4 18),(atP o4 19),(atP o4 20)]]) fun r5 =>
    binP .add v3 (I 1) fun r6 =>
    K [v0,v1,v2,r6,v4,r5])
    (x0k v0 v1 v2 v3 r2 v4 v5))
   (x1k v0 v1 v2 v3 v4 v5)) v
def Qjv:GM
 | [.one a0,.one a1,.one a2],k =>
  (0=0)∧(0≤16777216)∧(21=21)∧lp (fun L w=>Qjv_r0 w L
   (fun q7 q8 q9 q10 q11 q12 q13=>rt [.pv] [q13] k)
   (fun q14 q15 q16 q17 q18 q19=>rt [.pv] [q19] k)) [a0,a1,a2,(I 0),(.list 21 []),(.list 21 [])]
 | _,_=>False
abbrev Qjv_e:Ent:=⟨[154],Qjv⟩
def Qjv_l:List LE:=[⟨none,0,⟨[(0,.one zB),(1,.one zB),(2,.one zB),(6,.one (.own 1)),(7,.one (.own 0)),(8,.one zB)],[],[(1,⟨.flat,150,21,(.bool false)⟩),(0,⟨.flat,150,21,(.bool false)⟩)],2,31,[]⟩,fun K k v=>Qjv_r0 v K (fun x0 x1 x2 x3 x4 x5 x6=>k (.exit 0) ⟨[(0,.one (.pv x0)),(1,.one (.pv x1)),(2,.one (.pv x2)),(6,.one (.own 1)),(7,.one (.own 0)),(8,.one (.pv x3)),(15,.one (.pv x3)),(16,.one (.pv x4))],[],[(1,⟨.flat,150,21,x5⟩),(0,⟨.flat,150,21,x6⟩)],2,31,[]⟩) (fun x0 x1 x2 x3 x4 x5=>k (.exit 0) ⟨[(0,.one (.pv x0)),(1,.one (.pv x1)),(2,.one (.pv x2)),(6,.one (.own 1)),(7,.one (.own 0)),(8,.one (.pv x3)),(15,.undef),(16,.undef)],[],[(1,⟨.flat,150,21,x4⟩),(0,⟨.flat,150,21,x5⟩)],2,31,[]⟩)⟩]
theorem Qjv_s:LEsOK [Qhd_e] TT (kk [0,1,2,6,7,8,15,16,999999]) Qjv_l Tryz.f154 Qjv_l:=⟨fun v K k h=>by
 apply un_all h;exact fun v0 v1 v2 v3 v4 v5 h=>km h
 ,trivial⟩
theorem Qjv_w:EntOK Tryz.prog TT Qjv_e:=ok_ tabok (L:=[Qhd_e]) ⟨Qhd_w,trivial⟩ (keep:=(kk [0,1,2,6,7,8,15,16,999999])) (l:=Qjv_l) Tryz.func154 Qjv_s fun av k h=>by
 unfold Qjv at h;split at h
 ·exact km h
 ·exact h.elim
def Qjw:GM
 | [.agg u0,.one a1,.one a2,.agg u1,.one a24],k=>un 1 (fun a0=>un 21 (fun a3 a4 a5 a6 a7 a8 a9 a10 a11 a12 a13 a14 a15 a16 a17 a18 a19 a20 a21 a22 a23 =>
  call Qbm [.agg [a0]] fun o0 =>
  call Qhu [.one a1,.one a2,.agg [a3,a4,a5,a6,a7,a8,a9,a10,a11,a12,a13,a14,a15,a16,a17,a18,a19,a20,a21,a22,a23],.one a24] fun o1 =>
  binP .neq (atP o1 0) (I 1) fun r2 =>
  iteP r2
   (rt [.pv] [(atP o0 0)] k)
   (call Qbl [.agg [a3,a4,a5,a6,a7,a8,a9,a10,a11,a12,a13,a14,a15,a16,a17,a18,a19,a20,a21,a22,a23]] fun o3 =>
   call Qjt [.agg [a0],.one a1,.one a2] fun o4 =>
   binP .geq (atP o4 0) (I 0) fun r5 =>
   iteP r5
    (boundP 23 (atP o0 0) (atP o4 0) fun n6 =>
    setP (atP o0 0) n6 0 [a1,a2,(atP o3 0),(atP o3 1),(atP o3 2),(atP o3 3),(atP o3 4),(atP o3 5),(atP o3 6),(atP o3 7),(atP o3 8),(atP o3 9),(atP o3 10),(atP o3 11),(atP o3 12),(atP o3 13),(atP o3 14),(atP o3 15),(atP o3 16),(atP o3 17),(atP o3 18),(atP o3 19),(atP o3 20)] fun r7 =>
    rt [.pv] [r7] k)
    (lenP a0 fun r8 =>
    binP .lss r8 (I 16) fun r9 =>
    iteP r9
     ((1=1)∧(23≤16777216)∧(23=23)∧(0=0)∧(23=23)∧catP 23 (atP o0 0) (.list 23 [[a1,a2,(atP o3 0),(atP o3 1),(atP o3 2),(atP o3 3),(atP o3 4),(atP o3 5),(atP o3 6),(atP o3 7),(atP o3 8),(atP o3 9),(atP o3 10),(atP o3 11),(atP o3 12),(atP o3 13),(atP o3 14),(atP o3 15),(atP o3 16),(atP o3 17),(atP o3 18),(atP o3 19),(atP o3 20)]]) fun r10 =>
     rt [.pv] [r10] k)
     (rt [.pv] [(atP o0 0)] k)))) u1) u0
 | _,_=>False
abbrev Qjw_e:Ent:=⟨[155],Qjw⟩
theorem Qjw_w:EntOK Tryz.prog TT Qjw_e:=ok_ tabok (L:=[Qbm_e,Qhu_e,Qbl_e,Qjt_e]) ⟨Qbm_w,Qhu_w,Qbl_w,Qjt_w,trivial⟩ (keep:=[]) (l:=[]) Tryz.func155 trivial fun av k h=>by
 unfold Qjw at h;split at h
 ·apply un_all h;clear h;intro a0 h;apply un_all h;clear h;intro a3 a4 a5 a6 a7 a8 a9 a10 a11 a12 a13 a14 a15 a16 a17 a18 a19 a20 a21 a22 a23 h;exact km h
 ·exact h.elim
def Qjx:GM
 | [.agg u0],k=>un 9 (fun a0 a1 a2 a3 a4 a5 a6 a7 a8 =>
  unP .not a7 fun r0 =>
  iteP r0
   (rt [.sc,.sc,.sc,.pv,.sc] [(.str ⟨#[]⟩),(I 0),(I 0),(.list 1 []),(.bool false)] k)
   (unP .not a2 fun r1 =>
   iteP r1
    (rt [.sc,.sc,.sc,.pv,.sc] [(.str ⟨#[]⟩),(I 0),(I 0),(.list 1 []),(.bool false)] k)
    (call Qbi [.agg [a3,a4,a5,a6]] fun o2 =>
    rt [.sc,.sc,.sc,.pv,.sc] [(atP o2 0),(atP o2 1),(atP o2 2),(atP o2 3),(.bool true)] k))) u0
 | _,_=>False
abbrev Qjx_e:Ent:=⟨[156],Qjx⟩
theorem Qjx_w:EntOK Tryz.prog TT Qjx_e:=ok_ tabok (L:=[Qbi_e]) ⟨Qbi_w,trivial⟩ (keep:=[]) (l:=[]) Tryz.func156 trivial fun av k h=>by
 unfold Qjx at h;split at h
 ·apply un_all h;clear h;intro a0 a1 a2 a3 a4 a5 a6 a7 a8 h;exact km h
 ·exact h.elim
def Qjy:GM
 | [.agg u0],k=>un 9 (fun a0 a1 a2 a3 a4 a5 a6 a7 a8 =>
  iteP a7
   (unP .not a2 fun r0 =>
   rt [.sc] [r0] k)
   (rt [.sc] [(.bool false)] k)) u0
 | _,_=>False
abbrev Qjy_e:Ent:=⟨[157],Qjy⟩
theorem Qjy_w:EntOK Tryz.prog TT Qjy_e:=ok_ tabok (L:=[]) trivial (keep:=[]) (l:=[]) Tryz.func157 trivial fun av k h=>by
 unfold Qjy at h;split at h
 ·apply un_all h;clear h;intro a0 a1 a2 a3 a4 a5 a6 a7 a8 h;exact km h
 ·exact h.elim
def Qjz_r0 (v:List PV) (K:List PV→Prop) (x0k:PV→PV→PV→PV→PV→PV→PV→PV→PV→PV→PV→PV→PV→PV→PV→PV→PV→PV→PV→Prop) (x1k:PV→PV→PV→PV→PV→PV→PV→PV→PV→PV→PV→PV→PV→PV→PV→PV→PV→PV→PV→Prop) (x2k:PV→PV→PV→PV→PV→PV→PV→PV→PV→PV→PV→PV→PV→PV→PV→PV→PV→PV→PV→Prop) (x3k:PV→PV→PV→PV→PV→PV→PV→PV→PV→PV→PV→PV→PV→PV→PV→PV→PV→PV→PV→Prop) (x4k:PV→PV→PV→PV→PV→PV→PV→PV→PV→PV→PV→PV→PV→PV→PV→PV→PV→PV→PV→Prop) (x5k:PV→PV→PV→PV→PV→PV→PV→PV→PV→PV→PV→PV→PV→PV→PV→PV→PV→PV→PV→Prop) (x6k:PV→PV→PV→PV→PV→PV→PV→PV→PV→PV→PV→PV→PV→PV→PV→PV→PV→PV→PV→Prop) (x7k:PV→PV→PV→PV→PV→PV→PV→PV→PV→PV→PV→PV→PV→PV→PV→PV→PV→PV→PV→Prop) (x8k:PV→PV→PV→PV→PV→PV→PV→PV→PV→PV→PV→PV→PV→PV→PV→PV→PV→PV→PV→Prop) (x9k:PV→PV→PV→PV→PV→PV→PV→PV→PV→PV→PV→PV→PV→PV→PV→PV→PV→PV→PV→Prop) (x10k:PV→PV→PV→PV→PV→PV→PV→PV→PV→PV→PV→PV→PV→PV→PV→PV→PV→PV→PV→Prop) (x11k:PV→PV→PV→PV→PV→PV→PV→PV→PV→PV→PV→PV→PV→PV→PV→PV→PV→PV→PV→Prop) (x12k:PV→PV→PV→PV→PV→PV→PV→PV→PV→PV→PV→PV→PV→PV→PV→PV→PV→PV→PV→Prop) (x13k:PV→PV→PV→PV→PV→PV→PV→PV→PV→PV→PV→PV→PV→PV→PV→PV→PV→PV→PV→Prop) (x14k:PV→PV→PV→PV→PV→PV→PV→PV→PV→PV→PV→PV→PV→PV→PV→PV→PV→PV→PV→Prop) (x15k:PV→PV→PV→PV→PV→PV→PV→PV→PV→PV→PV→PV→PV→PV→PV→PV→PV→PV→PV→Prop):Prop :=
 un 24 (fun v0 v1 v2 v3 v4 v5 v6 v7 v8 v9 v10 v11 v12 v13 v14 v15 v16 v17 v18 v19 v20 v21 v22 v23 =>
  (1=1)∧(1≤16777216)∧(1=1)∧(0=0)∧(1=1)∧(flatCond [.pv (I 0)] [.pv v2])∧catP 1 v23 (.list 1 [[v2]]) fun r0 =>
  elemP 1 v3 (I 0) fun c1 =>
  call Qju [.agg [v4],.one v2,.one (atP c1 0)] fun o2 =>
  (1=1)∧(21≤16777216)∧(21=21)∧(0=0)∧(21=21)∧elemP 1 v3 (I 0) fun c3 =>
  call Qjv [.one v0,.one v2,.one (atP c3 0)] fun o4 =>
  catP 21 (.list 21 [[(atP o2 0),(atP o2 1),(atP o2 2),(atP o2 3),(atP o2 4),(atP o2 5),(atP o2 6),(atP o2 7),(atP o2 8),(atP o2 9),(atP o2 10),(atP o2 11),(atP o2 12),(atP o2 13),(atP o2 14),(atP o2 15),(atP o2 16),(atP o2 17),(atP o2 18),(atP o2 19),(atP o2 20)]]) (atP o4 0) fun r5 =>
  elemP 1 v3 (I 0) fun c6 =>
  ((call Qhz [.agg [v5,v6],.one r5,.one v2,.one (atP c6 0),.one v1] fun o7 =>
  (iteP (atP o7 7)
   (elemP 1 v3 (I 0) fun c8 =>
   lenP (atP o7 8) fun r9 =>
   binP .sub r9 (I 1) fun r10 =>
   elemP 21 r5 r10 fun c11 =>
   call Qjw [.agg [v4],.one v2,.one (atP c8 0),.agg [(atP c11 0),(atP c11 1),(atP c11 2),(atP c11 3),(atP c11 4),(atP c11 5),(atP c11 6),(atP c11 7),(atP c11 8),(atP c11 9),(atP c11 10),(atP c11 11),(atP c11 12),(atP c11 13),(atP c11 14),(atP c11 15),(atP c11 16),(atP c11 17),(atP c11 18),(atP c11 19),(atP c11 20)],.one v1] fun o12 =>
   call Qjx [.agg [(atP o7 0),(atP o7 1),(atP o7 2),(atP o7 3),(atP o7 4),(atP o7 5),(atP o7 6),(atP o7 7),(atP o7 8)]] fun o13 =>
   call Qjy [.agg [(atP o7 0),(atP o7 1),(atP o7 2),(atP o7 3),(atP o7 4),(atP o7 5),(atP o7 6),(atP o7 7),(atP o7 8)]] fun o14 =>
   iteP (atP o14 0)
    (x0k (atP o7 0) (atP o7 1) v8 v9 v10 v11 v12 (atP o12 0) v13 v14 v15 v16 v17 v18 v19 v20 v21 r0 v22)
    (unP .not (atP o13 4) fun r15 =>
    iteP r15
     (x1k (atP o7 0) (atP o7 1) v8 v9 v10 v11 v12 (atP o12 0) v13 v14 v15 v16 v17 v18 v19 v20 v21 r0 v22)
     (binP .eql (atP o13 1) (I 3) fun r16 =>
     iteP r16
      (call Qbh [.one (atP o13 3)] fun o17 =>
      natP (I 1) fun n18 =>
      cutP 1 v3 (some n18) none fun r19 =>
      (flatRows r19)∧catP 1 (atP o17 0) r19 fun r20 =>
      binP .geq v12 (I 3) fun r21 =>
      iteP r21
       (x2k (atP o7 0) (atP o7 1) v8 v9 v10 v11 v12 (atP o12 0) v13 v14 v15 v16 v17 v18 v19 v20 v21 r0 v22)
       (call Qcp [.one r20] fun o22 =>
       unP .not (atP o22 0) fun r23 =>
       iteP r23
        (x3k (atP o7 0) (atP o7 1) v8 v9 v10 v11 v12 (atP o12 0) v13 v14 v15 v16 v17 v18 v19 v20 v21 r0 v22)
        (binP .add v12 (I 1) fun r24 =>
        K [v0,v1,(atP o13 2),r20,(atP o12 0),(atP o7 0),(atP o7 1),v7,v8,v9,v10,v11,r24,v13,v14,v15,v16,v17,v18,v19,v20,v21,v22,r0])))
      (lenP v3 fun r25 =>
      binP .eql r25 (I 1) fun r26 =>
      iteP r26
       (x4k (atP o7 0) (atP o7 1) (atP o13 0) (atP o13 1) (atP o13 2) (atP o13 3) v12 (atP o12 0) v13 v14 v15 v16 v17 v18 v19 v20 v21 r0 v22)
       (binP .neq (atP o13 1) (I 2) fun r27 =>
       iteP r27
        (x5k (atP o7 0) (atP o7 1) v8 v9 v10 v11 v12 (atP o12 0) v13 v14 v15 v16 v17 v18 v19 v20 v21 r0 v22)
        (natP (I 1) fun n28 =>
        cutP 1 v3 (some n28) none fun r29 =>
        K [v0,v1,(atP o13 2),r29,(atP o12 0),(atP o7 0),(atP o7 1),v7,v8,v9,v10,v11,v12,v13,v14,v15,v16,v17,v18,v19,v20,v21,v22,r0]))))))
   (call Qjx [.agg [(atP o7 0),(atP o7 1),(atP o7 2),(atP o7 3),(atP o7 4),(atP o7 5),(atP o7 6),(atP o7 7),(atP o7 8)]] fun o30 =>
   call Qjy [.agg [(atP o7 0),(atP o7 1),(atP o7 2),(atP o7 3),(atP o7 4),(atP o7 5),(atP o7 6),(atP o7 7),(atP o7 8)]] fun o31 =>
   iteP (atP o31 0)
    (x6k (atP o7 0) (atP o7 1) v8 v9 v10 v11 v12 v4 v13 v14 v15 v16 v17 v18 v19 v20 v21 r0 v22)
    (unP .not (atP o30 4) fun r32 =>
    iteP r32
     (x7k (atP o7 0) (atP o7 1) v8 v9 v10 v11 v12 v4 v13 v14 v15 v16 v17 v18 v19 v20 v21 r0 v22)
     (binP .eql (atP o30 1) (I 3) fun r33 =>
     iteP r33
      (call Qbh [.one (atP o30 3)] fun o34 =>
      natP (I 1) fun n35 =>
      cutP 1 v3 (some n35) none fun r36 =>
      (flatRows r36)∧catP 1 (atP o34 0) r36 fun r37 =>
      binP .geq v12 (I 3) fun r38 =>
      iteP r38
       (x8k (atP o7 0) (atP o7 1) v8 v9 v10 v11 v12 v4 v13 v14 v15 v16 v17 v18 v19 v20 v21 r0 v22)
       (call Qcp [.one r37] fun o39 =>
       unP .not (atP o39 0) fun r40 =>
       iteP r40
        (x2k (atP o7 0) (atP o7 1) v8 v9 v10 v11 v12 v4 v13 v14 v15 v16 v17 v18 v19 v20 v21 r0 v22)
        (binP .add v12 (I 1) fun r41 =>
        K [v0,v1,(atP o30 2),r37,v4,(atP o7 0),(atP o7 1),v7,v8,v9,v10,v11,r41,v13,v14,v15,v16,v17,v18,v19,v20,v21,v22,r0])))
      (lenP v3 fun r42 =>
      binP .eql r42 (I 1) fun r43 =>
      iteP r43
       (x9k (atP o7 0) (atP o7 1) (atP o30 0) (atP o30 1) (atP o30 2) (atP o30 3) v12 v4 v13 v14 v15 v16 v17 v18 v19 v20 v21 r0 v22)
       (binP .neq (atP o30 1) (I 2) fun r44 =>
       iteP r44
        (x10k (atP o7 0) (atP o7 1) v8 v9 v10 v11 v12 v4 v13 v14 v15 v16 v17 v18 v19 v20 v21 r0 v22)
        (natP (I 1) fun n45 =>
        cutP 1 v3 (some n45) none fun r46 =>
        K [v0,v1,(atP o30 2),r46,v4,(atP o7 0),(atP o7 1),v7,v8,v9,v10,v11,v12,v13,v14,v15,v16,v17,v18,v19,v20,v21,v22,r0])))))))∧True)∧True)∧(call Qhz [.agg [v5,v6],.one r5,.one v2,.one (atP c6 0),.one v1] fun o47 =>
  ((iteP (atP o47 7)
   (elemP 1 v3 (I 0) fun c48 =>
   lenP (atP o47 8) fun r49 =>
   binP .sub r49 (I 1) fun r50 =>
   elemP 21 r5 r50 fun c51 =>
   call Qjw [.agg [v4],.one v2,.one (atP c48 0),.agg [(atP c51 0),(atP c51 1),(atP c51 2),(atP c51 3),(atP c51 4),(atP c51 5),(atP c51 6),(atP c51 7),(atP c51 8),(atP c51 9),(atP c51 10),(atP c51 11),(atP c51 12),(atP c51 13),(atP c51 14),(atP c51 15),(atP c51 16),(atP c51 17),(atP c51 18),(atP c51 19),(atP c51 20)],.one v1] fun o52 =>
   call Qjx [.agg [(atP o47 0),(atP o47 1),(atP o47 2),(atP o47 3),(atP o47 4),(atP o47 5),(atP o47 6),(atP o47 7),(atP o47 8)]] fun o53 =>
   call Qjy [.agg [(atP o47 0),(atP o47 1),(atP o47 2),(atP o47 3),(atP o47 4),(atP o47 5),(atP o47 6),(atP o47 7),(atP o47 8)]] fun o54 =>
   iteP (atP o54 0)
    (x11k (atP o47 0) (atP o47 1) v8 v9 v10 v11 v12 (atP o52 0) v13 v14 v15 v16 v17 v18 v19 v20 v21 r0 v22)
    (unP .not (atP o53 4) fun r55 =>
    iteP r55
     (x12k (atP o47 0) (atP o47 1) v8 v9 v10 v11 v12 (atP o52 0) v13 v14 v15 v16 v17 v18 v19 v20 v21 r0 v22)
     (binP .eql (atP o53 1) (I 3) fun r56 =>
     iteP r56
      (call Qbh [.one (atP o53 3)] fun o57 =>
      natP (I 1) fun n58 =>
      cutP 1 v3 (some n58) none fun r59 =>
      (flatRows r59)∧catP 1 (atP o57 0) r59 fun r60 =>
      binP .geq v12 (I 3) fun r61 =>
      iteP r61
       (x3k (atP o47 0) (atP o47 1) v8 v9 v10 v11 v12 (atP o52 0) v13 v14 v15 v16 v17 v18 v19 v20 v21 r0 v22)
       (call Qcp [.one r60] fun o62 =>
       unP .not (atP o62 0) fun r63 =>
       iteP r63
        (x13k (atP o47 0) (atP o47 1) v8 v9 v10 v11 v12 (atP o52 0) v13 v14 v15 v16 v17 v18 v19 v20 v21 r0 v22)
        (binP .add v12 (I 1) fun r64 =>
        K [v0,v1,(atP o53 2),r60,(atP o52 0),(atP o47 0),(atP o47 1),v7,v8,v9,v10,v11,r64,v13,v14,v15,v16,v17,v18,v19,v20,v21,v22,r0])))
      (lenP v3 fun r65 =>
      binP .eql r65 (I 1) fun r66 =>
      iteP r66
       (x14k (atP o47 0) (atP o47 1) (atP o53 0) (atP o53 1) (atP o53 2) (atP o53 3) v12 (atP o52 0) v13 v14 v15 v16 v17 v18 v19 v20 v21 r0 v22)
       (binP .neq (atP o53 1) (I 2) fun r67 =>
       iteP r67
        (x15k (atP o47 0) (atP o47 1) v8 v9 v10 v11 v12 (atP o52 0) v13 v14 v15 v16 v17 v18 v19 v20 v21 r0 v22)
        (natP (I 1) fun n68 =>
        cutP 1 v3 (some n68) none fun r69 =>
        K [v0,v1,(atP o53 2),r69,(atP o52 0),(atP o47 0),(atP o47 1),v7,v8,v9,v10,v11,v12,v13,v14,v15,v16,v17,v18,v19,v20,v21,v22,r0]))))))
   (call Qjx [.agg [(atP o47 0),(atP o47 1),(atP o47 2),(atP o47 3),(atP o47 4),(atP o47 5),(atP o47 6),(atP o47 7),(atP o47 8)]] fun o70 =>
   call Qjy [.agg [(atP o47 0),(atP o47 1),(atP o47 2),(atP o47 3),(atP o47 4),(atP o47 5),(atP o47 6),(atP o47 7),(atP o47 8)]] fun o71 =>
   iteP (atP o71 0)
    (x0k (atP o47 0) (atP o47 1) v8 v9 v10 v11 v12 v4 v13 v14 v15 v16 v17 v18 v19 v20 v21 r0 v22)
    (unP .not (atP o70 4) fun r72 =>
    iteP r72
     (x1k (atP o47 0) (atP o47 1) v8 v9 v10 v11 v12 v4 v13 v14 v15 v16 v17 v18 v19 v20 v21 r0 v22)
     (binP .eql (atP o70 1) (I 3) fun r73 =>
     iteP r73
      (call Qbh [.one (atP o70 3)] fun o74 =>
      natP (I 1) fun n75 =>
      cutP 1 v3 (some n75) none fun r76 =>
      (flatRows r76)∧catP 1 (atP o74 0) r76 fun r77 =>
      binP .geq v12 (I 3) fun r78 =>
      iteP r78
       (x2k (atP o47 0) (atP o47 1) v8 v9 v10 v11 v12 v4 v13 v14 v15 v16 v17 v18 v19 v20 v21 r0 v22)
       (call Qcp [.one r77] fun o79 =>
       unP .not (atP o79 0) fun r80 =>
       iteP r80
        (x3k (atP o47 0) (atP o47 1) v8 v9 v10 v11 v12 v4 v13 v14 v15 v16 v17 v18 v19 v20 v21 r0 v22)
        (binP .add v12 (I 1) fun r81 =>
        K [v0,v1,(atP o70 2),r77,v4,(atP o47 0),(atP o47 1),v7,v8,v9,v10,v11,r81,v13,v14,v15,v16,v17,v18,v19,v20,v21,v22,r0])))
      (lenP v3 fun r82 =>
      binP .eql r82 (I 1) fun r83 =>
      iteP r83
       (x4k (atP o47 0) (atP o47 1) (atP o70 0) (atP o70 1) (atP o70 2) (atP o70 3) v12 v4 v13 v14 v15 v16 v17 v18 v19 v20 v21 r0 v22)
       (binP .neq (atP o70 1) (I 2) fun r84 =>
       iteP r84
        (x5k (atP o47 0) (atP o47 1) v8 v9 v10 v11 v12 v4 v13 v14 v15 v16 v17 v18 v19 v20 v21 r0 v22)
        (natP (I 1) fun n85 =>
        cutP 1 v3 (some n85) none fun r86 =>
        K [v0,v1,(atP o70 2),r86,v4,(atP o47 0),(atP o47 1),v7,v8,v9,v10,v11,v12,v13,v14,v15,v16,v17,v18,v19,v20,v21,v22,r0])))))))∧True)∧True)∧True) v
def Qjz:GM
 | [.agg u0,.agg u1,.one a3,.one a4,.one a5,.one a6],k=>un 2 (fun a0 a1=>un 1 (fun a2 =>
  call Qbg [.agg [a0,a1]] fun o0 =>
  call Qbm [.agg [a2]] fun o1 =>
  call Qcp [.one a5] fun o2 =>
  unP .not (atP o2 0) fun r3 =>
  iteP r3
   (rt [.pv,.pv,.sc,.sc,.sc,.sc,.pv,.pv,.sc,.pv] [(atP o0 0),(atP o0 1),(I 6),(.str ⟨#[]⟩),(I 0),(I 0),(.list 1 []),(.list 1 []),(I 0),(atP o1 0)] k)
   (call Qbh [.one a5] fun o4 =>
   lp (fun L w=>Qjz_r0 w L
    (fun q87 q88 q89 q90 q91 q92 q93 q94 q95 q96 q97 q98 q99 q100 q101 q102 q103 q104 q105=>rt [.pv,.pv,.sc,.sc,.sc,.sc,.pv,.pv,.sc,.pv] [q87,q88,(I 2),q89,q90,q91,q92,q104,q93,q94] k)
    (fun q106 q107 q108 q109 q110 q111 q112 q113 q114 q115 q116 q117 q118 q119 q120 q121 q122 q123 q124=>rt [.pv,.pv,.sc,.sc,.sc,.sc,.pv,.pv,.sc,.pv] [q106,q107,(I 3),q108,q109,q110,q111,q123,q112,q113] k)
    (fun q125 q126 q127 q128 q129 q130 q131 q132 q133 q134 q135 q136 q137 q138 q139 q140 q141 q142 q143=>rt [.pv,.pv,.sc,.sc,.sc,.sc,.pv,.pv,.sc,.pv] [q125,q126,(I 5),q127,q128,q129,q130,q142,q131,q132] k)
    (fun q144 q145 q146 q147 q148 q149 q150 q151 q152 q153 q154 q155 q156 q157 q158 q159 q160 q161 q162=>rt [.pv,.pv,.sc,.sc,.sc,.sc,.pv,.pv,.sc,.pv] [q144,q145,(I 5),q146,q147,q148,q149,q161,q150,q151] k)
    (fun q163 q164 q165 q166 q167 q168 q169 q170 q171 q172 q173 q174 q175 q176 q177 q178 q179 q180 q181=>rt [.pv,.pv,.sc,.sc,.sc,.sc,.pv,.pv,.sc,.pv] [q163,q164,(I 1),q165,q166,q167,q168,q180,q169,q170] k)
    (fun q182 q183 q184 q185 q186 q187 q188 q189 q190 q191 q192 q193 q194 q195 q196 q197 q198 q199 q200=>rt [.pv,.pv,.sc,.sc,.sc,.sc,.pv,.pv,.sc,.pv] [q182,q183,(I 4),q184,q185,q186,q187,q199,q188,q189] k)
    (fun q201 q202 q203 q204 q205 q206 q207 q208 q209 q210 q211 q212 q213 q214 q215 q216 q217 q218 q219=>rt [.pv,.pv,.sc,.sc,.sc,.sc,.pv,.pv,.sc,.pv] [q201,q202,(I 2),q203,q204,q205,q206,q218,q207,q208] k)
    (fun q220 q221 q222 q223 q224 q225 q226 q227 q228 q229 q230 q231 q232 q233 q234 q235 q236 q237 q238=>rt [.pv,.pv,.sc,.sc,.sc,.sc,.pv,.pv,.sc,.pv] [q220,q221,(I 3),q222,q223,q224,q225,q237,q226,q227] k)
    (fun q239 q240 q241 q242 q243 q244 q245 q246 q247 q248 q249 q250 q251 q252 q253 q254 q255 q256 q257=>rt [.pv,.pv,.sc,.sc,.sc,.sc,.pv,.pv,.sc,.pv] [q239,q240,(I 5),q241,q242,q243,q244,q256,q245,q246] k)
    (fun q258 q259 q260 q261 q262 q263 q264 q265 q266 q267 q268 q269 q270 q271 q272 q273 q274 q275 q276=>rt [.pv,.pv,.sc,.sc,.sc,.sc,.pv,.pv,.sc,.pv] [q258,q259,(I 1),q260,q261,q262,q263,q275,q264,q265] k)
    (fun q277 q278 q279 q280 q281 q282 q283 q284 q285 q286 q287 q288 q289 q290 q291 q292 q293 q294 q295=>rt [.pv,.pv,.sc,.sc,.sc,.sc,.pv,.pv,.sc,.pv] [q277,q278,(I 4),q279,q280,q281,q282,q294,q283,q284] k)
    (fun q296 q297 q298 q299 q300 q301 q302 q303 q304 q305 q306 q307 q308 q309 q310 q311 q312 q313 q314=>rt [.pv,.pv,.sc,.sc,.sc,.sc,.pv,.pv,.sc,.pv] [q296,q297,(I 2),q298,q299,q300,q301,q313,q302,q303] k)
    (fun q315 q316 q317 q318 q319 q320 q321 q322 q323 q324 q325 q326 q327 q328 q329 q330 q331 q332 q333=>rt [.pv,.pv,.sc,.sc,.sc,.sc,.pv,.pv,.sc,.pv] [q315,q316,(I 3),q317,q318,q319,q320,q332,q321,q322] k)
    (fun q334 q335 q336 q337 q338 q339 q340 q341 q342 q343 q344 q345 q346 q347 q348 q349 q350 q351 q352=>rt [.pv,.pv,.sc,.sc,.sc,.sc,.pv,.pv,.sc,.pv] [q334,q335,(I 5),q336,q337,q338,q339,q351,q340,q341] k)
    (fun q353 q354 q355 q356 q357 q358 q359 q360 q361 q362 q363 q364 q365 q366 q367 q368 q369 q370 q371=>rt [.pv,.pv,.sc,.sc,.sc,.sc,.pv,.pv,.sc,.pv] [q353,q354,(I 1),q355,q356,q357,q358,q370,q359,q360] k)
    (fun q372 q373 q374 q375 q376 q377 q378 q379 q380 q381 q382 q383 q384 q385 q386 q387 q388 q389 q390=>rt [.pv,.pv,.sc,.sc,.sc,.sc,.pv,.pv,.sc,.pv] [q372,q373,(I 4),q374,q375,q376,q377,q389,q378,q379] k)) [a3,a6,a4,(atP o4 0),(atP o1 0),(atP o0 0),(atP o0 1),(I 6),(.str ⟨#[]⟩),(I 0),(I 0),(.list 1 []),(I 0),(.list 1 []),(.list 51 []),(I 0),(.str ⟨#[]⟩),(I 0),(I 0),(.list 1 []),(I 0),(.list 23 []),(.list 1 []),(.list 1 [])])) u1) u0
 | _,_=>False
abbrev Qjz_e:Ent:=⟨[69],Qjz⟩
def Qjz_l:List LE:=[⟨none,0,⟨[(2,.one zB),(5,.one zB),(12,.one (.ptr 2 0)),(13,.one (.ptr 5 0)),(14,.one (.ptr 7 0)),(15,.one zB),(16,.one zB)],[(7,[zB]),(5,[zB,zB,zB,zB,zB,zB,zB,.own 10,zB]),(2,[zB,zB,zB,zB,zB,zB,zB,.own 11,zB,zB])],[(11,⟨.deep,3,1,(.bool false)⟩),(10,⟨.deep,3,1,(.bool false)⟩)],12,152,[]⟩,fun K k v=>Qjz_r0 v K (fun x0 x1 x2 x3 x4 x5 x6 x7 x8 x9 x10 x11 x12 x13 x14 x15 x16 x17 x18=>k .ret ⟨[(12,.one (.ptr 2 0))],[(2,[.pv x0,.pv x1,.pv (I 2),.pv x2,.pv x3,.pv x4,.pv x5,.own 13,.pv x6,.pv x7]),(2,[.pv x8,.pv x9,.pv x10,.pv x11,.pv x12,.pv x13,.pv x14,.own 11,.pv x15,.pv x16])],[(13,⟨.deep,3,1,x17⟩),(11,⟨.deep,3,1,x18⟩)],56,152,[]⟩) (fun x0 x1 x2 x3 x4 x5 x6 x7 x8 x9 x10 x11 x12 x13 x14 x15 x16 x17 x18=>k .ret ⟨[(12,.one (.ptr 2 0))],[(2,[.pv x0,.pv x1,.pv (I 3),.pv x2,.pv x3,.pv x4,.pv x5,.own 13,.pv x6,.pv x7]),(2,[.pv x8,.pv x9,.pv x10,.pv x11,.pv x12,.pv x13,.pv x14,.own 11,.pv x15,.pv x16])],[(13,⟨.deep,3,1,x17⟩),(11,⟨.deep,3,1,x18⟩)],56,152,[]⟩) (fun x0 x1 x2 x3 x4 x5 x6 x7 x8 x9 x10 x11 x12 x13 x14 x15 x16 x17 x18=>k .ret ⟨[(12,.one (.ptr 2 0))],[(2,[.pv x0,.pv x1,.pv (I 5),.pv x2,.pv x3,.pv x4,.pv x5,.own 13,.pv x6,.pv x7]),(2,[.pv x8,.pv x9,.pv x10,.pv x11,.pv x12,.pv x13,.pv x14,.own 11,.pv x15,.pv x16])],[(13,⟨.deep,3,1,x17⟩),(11,⟨.deep,3,1,x18⟩)],58,152,[]⟩) (fun x0 x1 x2 x3 x4 x5 x6 x7 x8 x9 x10 x11 x12 x13 x14 x15 x16 x17 x18=>k .ret ⟨[(12,.one (.ptr 2 0))],[(2,[.pv x0,.pv x1,.pv (I 5),.pv x2,.pv x3,.pv x4,.pv x5,.own 13,.pv x6,.pv x7]),(2,[.pv x8,.pv x9,.pv x10,.pv x11,.pv x12,.pv x13,.pv x14,.own 11,.pv x15,.pv x16])],[(13,⟨.deep,3,1,x17⟩),(11,⟨.deep,3,1,x18⟩)],59,152,[]⟩) (fun x0 x1 x2 x3 x4 x5 x6 x7 x8 x9 x10 x11 x12 x13 x14 x15 x16 x17 x18=>k .ret ⟨[(12,.one (.ptr 2 0))],[(2,[.pv x0,.pv x1,.pv (I 1),.pv x2,.pv x3,.pv x4,.pv x5,.own 13,.pv x6,.pv x7]),(2,[.pv x8,.pv x9,.pv x10,.pv x11,.pv x12,.pv x13,.pv x14,.own 11,.pv x15,.pv x16])],[(13,⟨.deep,3,1,x17⟩),(11,⟨.deep,3,1,x18⟩)],56,152,[]⟩) (fun x0 x1 x2 x3 x4 x5 x6 x7 x8 x9 x10 x11 x12 x13 x14 x15 x16 x17 x18=>k .ret ⟨[(12,.one (.ptr 2 0))],[(2,[.pv x0,.pv x1,.pv (I 4),.pv x2,.pv x3,.pv x4,.pv x5,.own 13,.pv x6,.pv x7]),(2,[.pv x8,.pv x9,.pv x10,.pv x11,.pv x12,.pv x13,.pv x14,.own 11,.pv x15,.pv x16])],[(13,⟨.deep,3,1,x17⟩),(11,⟨.deep,3,1,x18⟩)],56,152,[]⟩) (fun x0 x1 x2 x3 x4 x5 x6 x7 x8 x9 x10 x11 x12 x13 x14 x15 x16 x17 x18=>k .ret ⟨[(12,.one (.ptr 2 0))],[(2,[.pv x0,.pv x1,.pv (I 2),.pv x2,.pv x3,.pv x4,.pv x5,.own 13,.pv x6,.pv x7]),(2,[.pv x8,.pv x9,.pv x10,.pv x11,.pv x12,.pv x13,.pv x14,.own 11,.pv x15,.pv x16])],[(13,⟨.deep,3,1,x17⟩),(11,⟨.deep,3,1,x18⟩)],55,152,[]⟩) (fun x0 x1 x2 x3 x4 x5 x6 x7 x8 x9 x10 x11 x12 x13 x14 x15 x16 x17 x18=>k .ret ⟨[(12,.one (.ptr 2 0))],[(2,[.pv x0,.pv x1,.pv (I 3),.pv x2,.pv x3,.pv x4,.pv x5,.own 13,.pv x6,.pv x7]),(2,[.pv x8,.pv x9,.pv x10,.pv x11,.pv x12,.pv x13,.pv x14,.own 11,.pv x15,.pv x16])],[(13,⟨.deep,3,1,x17⟩),(11,⟨.deep,3,1,x18⟩)],55,152,[]⟩) (fun x0 x1 x2 x3 x4 x5 x6 x7 x8 x9 x10 x11 x12 x13 x14 x15 x16 x17 x18=>k .ret ⟨[(12,.one (.ptr 2 0))],[(2,[.pv x0,.pv x1,.pv (I 5),.pv x2,.pv x3,.pv x4,.pv x5,.own 13,.pv x6,.pv x7]),(2,[.pv x8,.pv x9,.pv x10,.pv x11,.pv x12,.pv x13,.pv x14,.own 11,.pv x15,.pv x16])],[(13,⟨.deep,3,1,x17⟩),(11,⟨.deep,3,1,x18⟩)],57,152,[]⟩) (fun x0 x1 x2 x3 x4 x5 x6 x7 x8 x9 x10 x11 x12 x13 x14 x15 x16 x17 x18=>k .ret ⟨[(12,.one (.ptr 2 0))],[(2,[.pv x0,.pv x1,.pv (I 1),.pv x2,.pv x3,.pv x4,.pv x5,.own 13,.pv x6,.pv x7]),(2,[.pv x8,.pv x9,.pv x10,.pv x11,.pv x12,.pv x13,.pv x14,.own 11,.pv x15,.pv x16])],[(13,⟨.deep,3,1,x17⟩),(11,⟨.deep,3,1,x18⟩)],55,152,[]⟩) (fun x0 x1 x2 x3 x4 x5 x6 x7 x8 x9 x10 x11 x12 x13 x14 x15 x16 x17 x18=>k .ret ⟨[(12,.one (.ptr 2 0))],[(2,[.pv x0,.pv x1,.pv (I 4),.pv x2,.pv x3,.pv x4,.pv x5,.own 13,.pv x6,.pv x7]),(2,[.pv x8,.pv x9,.pv x10,.pv x11,.pv x12,.pv x13,.pv x14,.own 11,.pv x15,.pv x16])],[(13,⟨.deep,3,1,x17⟩),(11,⟨.deep,3,1,x18⟩)],55,152,[]⟩) (fun x0 x1 x2 x3 x4 x5 x6 x7 x8 x9 x10 x11 x12 x13 x14 x15 x16 x17 x18=>k .ret ⟨[(12,.one (.ptr 2 0))],[(2,[.pv x0,.pv x1,.pv (I 2),.pv x2,.pv x3,.pv x4,.pv x5,.own 13,.pv x6,.pv x7]),(2,[.pv x8,.pv x9,.pv x10,.pv x11,.pv x12,.pv x13,.pv x14,.own 11,.pv x15,.pv x16])],[(13,⟨.deep,3,1,x17⟩),(11,⟨.deep,3,1,x18⟩)],57,152,[]⟩) (fun x0 x1 x2 x3 x4 x5 x6 x7 x8 x9 x10 x11 x12 x13 x14 x15 x16 x17 x18=>k .ret ⟨[(12,.one (.ptr 2 0))],[(2,[.pv x0,.pv x1,.pv (I 3),.pv x2,.pv x3,.pv x4,.pv x5,.own 13,.pv x6,.pv x7]),(2,[.pv x8,.pv x9,.pv x10,.pv x11,.pv x12,.pv x13,.pv x14,.own 11,.pv x15,.pv x16])],[(13,⟨.deep,3,1,x17⟩),(11,⟨.deep,3,1,x18⟩)],57,152,[]⟩) (fun x0 x1 x2 x3 x4 x5 x6 x7 x8 x9 x10 x11 x12 x13 x14 x15 x16 x17 x18=>k .ret ⟨[(12,.one (.ptr 2 0))],[(2,[.pv x0,.pv x1,.pv (I 5),.pv x2,.pv x3,.pv x4,.pv x5,.own 13,.pv x6,.pv x7]),(2,[.pv x8,.pv x9,.pv x10,.pv x11,.pv x12,.pv x13,.pv x14,.own 11,.pv x15,.pv x16])],[(13,⟨.deep,3,1,x17⟩),(11,⟨.deep,3,1,x18⟩)],60,152,[]⟩) (fun x0 x1 x2 x3 x4 x5 x6 x7 x8 x9 x10 x11 x12 x13 x14 x15 x16 x17 x18=>k .ret ⟨[(12,.one (.ptr 2 0))],[(2,[.pv x0,.pv x1,.pv (I 1),.pv x2,.pv x3,.pv x4,.pv x5,.own 13,.pv x6,.pv x7]),(2,[.pv x8,.pv x9,.pv x10,.pv x11,.pv x12,.pv x13,.pv x14,.own 11,.pv x15,.pv x16])],[(13,⟨.deep,3,1,x17⟩),(11,⟨.deep,3,1,x18⟩)],57,152,[]⟩) (fun x0 x1 x2 x3 x4 x5 x6 x7 x8 x9 x10 x11 x12 x13 x14 x15 x16 x17 x18=>k .ret ⟨[(12,.one (.ptr 2 0))],[(2,[.pv x0,.pv x1,.pv (I 4),.pv x2,.pv x3,.pv x4,.pv x5,.own 13,.pv x6,.pv x7]),(2,[.pv x8,.pv x9,.pv x10,.pv x11,.pv x12,.pv x13,.pv x14,.own 11,.pv x15,.pv x16])],[(13,⟨.deep,3,1,x17⟩),(11,⟨.deep,3,1,x18⟩)],57,152,[]⟩)⟩]
theorem Qjz_s:LEsOK [Qbg_e,Qbm_e,Qcp_e,Qbh_e,Qju_e,Qjv_e,Qhz_e,Qjw_e,Qjx_e,Qjy_e] TT.shr (kk [2,5,12,13,14,15,16,116,117,118,999999]) Qjz_l Tryz.f69 Qjz_l:=⟨fun v K k h=>by
 apply un_all h;exact fun v0 v1 v2 v3 v4 v5 v6 v7 v8 v9 v10 v11 v12 v13 v14 v15 v16 v17 v18 v19 v20 v21 v22 v23 h=>km h
 ,trivial⟩
theorem Qjz_w:EntOK Tryz.prog TT Qjz_e:=okS_ tabok (L:=[Qbg_e,Qbm_e,Qcp_e,Qbh_e,Qju_e,Qjv_e,Qhz_e,Qjw_e,Qjx_e,Qjy_e]) ⟨Qbg_w,Qbm_w,Qcp_w,Qbh_w,Qju_w,Qjv_w,Qhz_w,Qjw_w,Qjx_w,Qjy_w,trivial⟩ (keep:=(kk [2,5,12,13,14,15,16,116,117,118,999999])) (l:=Qjz_l) Tryz.func69 Qjz_s fun av k h=>by
 unfold Qjz at h;split at h
 ·apply un_all h;clear h;intro a0 a1 h;apply un_all h;clear h;intro a2 h;exact km h
 ·exact h.elim
def Qka:GM
 | [.agg u0,.agg u1,.one a3,.one a4,.one a5],k=>un 2 (fun a0 a1=>un 1 (fun a2 =>
  (0=0)∧(0≤16777216)∧(2=2)∧call Qjz [.agg [a0,a1],.agg [a2],.one (.list 2 []),.one a3,.one a4,.one a5] fun o0 =>
  rt [.pv,.pv,.sc,.sc,.sc,.sc,.pv,.pv,.sc] [(atP o0 0),(atP o0 1),(atP o0 2),(atP o0 3),(atP o0 4),(atP o0 5),(atP o0 6),(atP o0 7),(atP o0 8)] k) u1) u0
 | _,_=>False
abbrev Qka_e:Ent:=⟨[136],Qka⟩
theorem Qka_w:EntOK Tryz.prog TT Qka_e:=ok_ tabok (L:=[Qjz_e]) ⟨Qjz_w,trivial⟩ (keep:=[]) (l:=[]) Tryz.func136 trivial fun av k h=>by
 unfold Qka at h;split at h
 ·apply un_all h;clear h;intro a0 a1 h;apply un_all h;clear h;intro a2 h;exact km h
 ·exact h.elim
def Qkb:GM
 | [.agg u0,.one a3],k=>un 3 (fun a0 a1 a2 =>
  lenP a2 fun r0 =>
  binP .gtr r0 (I 16) fun r1 =>
  iteP r1
   (rt [.pv,.pv,.sc,.sc,.sc,.sc,.pv,.pv,.sc] [(.list 1 []),(.list 51 []),(I 6),(.str ⟨#[]⟩),(I 0),(I 0),(.list 1 []),(.list 1 []),(I 0)] k)
   (call Qka [.agg [(.list 1 []),(.list 51 [])],.agg [a2],.one a0,.one a1,.one a3] fun o2 =>
   rt [.pv,.pv,.sc,.sc,.sc,.sc,.pv,.pv,.sc] [(atP o2 0),(atP o2 1),(atP o2 2),(atP o2 3),(atP o2 4),(atP o2 5),(atP o2 6),(atP o2 7),(atP o2 8)] k)) u0
 | _,_=>False
abbrev Qkb_e:Ent:=⟨[49],Qkb⟩
theorem Qkb_w:EntOK Tryz.prog TT Qkb_e:=ok_ tabok (L:=[Qka_e]) ⟨Qka_w,trivial⟩ (keep:=[]) (l:=[]) Tryz.func49 trivial fun av k h=>by
 unfold Qkb at h;split at h
 ·apply un_all h;clear h;intro a0 a1 a2 h;exact km h
 ·exact h.elim
def Qkc:GM
 | [.agg u0,.ro (.cells u1),.ro (.cells u2)],k=>un 23 (fun a0 a1 a2 a3 a4 a5 a6 a7 a8 a9 a10 a11 a12 a13 a14 a15 a16 a17 a18 a19 a20 a21 a22=>un 1 (fun a23=>un 1 (fun a24 =>
  binP .eql a0 a23 fun r0 =>
  iteP r0
   (binP .eql a1 a24 fun r1 =>
   rt [.sc] [r1] k)
   (rt [.sc] [(.bool false)] k)) u2) u1) u0
 | _,_=>False
abbrev Qkc_e:Ent:=⟨[285],Qkc⟩
theorem Qkc_w:EntOK Tryz.prog TT Qkc_e:=okF_ tabok (L:=[]) trivial (keep:=[]) (l:=[]) Tryz.func285 trivial fun av k h=>by
 unfold Qkc at h;split at h
 ·apply un_all h;clear h;intro a0 a1 a2 a3 a4 a5 a6 a7 a8 a9 a10 a11 a12 a13 a14 a15 a16 a17 a18 a19 a20 a21 a22 h;apply un_all h;clear h;intro a23 h;apply un_all h;clear h;intro a24 h;exact km h
 ·exact h.elim
def Qkd_r0 (v:List PV) (K:List PV→Prop) (x0k:PV→Prop) (x1k:PV→PV→PV→PV→PV→PV→Prop):Prop :=
 un 6 (fun v0 v1 v2 v3 v4 v5 =>
  binP .lss v5 v4 fun r0 =>
  iteP r0
   (elemP 23 v0 v5 fun c1 =>
   call Qkc [.agg [(atP c1 0),(atP c1 1),(atP c1 2),(atP c1 3),(atP c1 4),(atP c1 5),(atP c1 6),(atP c1 7),(atP c1 8),(atP c1 9),(atP c1 10),(atP c1 11),(atP c1 12),(atP c1 13),(atP c1 14),(atP c1 15),(atP c1 16),(atP c1 17),(atP c1 18),(atP c1 19),(atP c1 20),(atP c1 21),(atP c1 22)],.ro (.cells [v1]),.ro (.cells [v2])] fun o2 =>
   iteP (atP o2 0)
    (x0k v5)
    (binP .add v5 (I 1) fun r3 =>
    K [v0,v1,v2,v3,v4,r3]))
   (x1k v0 v1 v2 v3 v4 v5)) v
def Qkd:GM
 | [.one a0,.fn 285 [.cells u0,.cells u1]],k=>un 1 (fun a1=>un 1 (fun a2 =>
  lenP a0 fun r0 =>
  lp (fun L w=>Qkd_r0 w L
   (fun q4=>rt [.sc] [q4] k)
   (fun q5 q6 q7 q8 q9 q10=>rt [.sc] [(I (-1))] k)) [a0,a1,a2,(I 0),r0,(I 0)]) u1) u0
 | _,_=>False
abbrev Qkd_e:Ent:=⟨[284,285],Qkd⟩
def Qkd_l:List LE:=[⟨none,0,⟨[(0,.one zB),(1,.one (.fn 285 [.ro (.cells [(.bool false)]),.ro (.cells [(.bool false)])])),(4,.one zB),(7,.one zB),(8,.one zB)],[],[],0,19,[]⟩,fun K k v=>Qkd_r0 v K (fun x0=>k .ret ⟨[(4,.one (.pv x0))],[],[],1,19,[]⟩) (fun x0 x1 x2 x3 x4 x5=>k (.exit 0) ⟨[(0,.one (.pv x0)),(1,.one (.fn 285 [.ro (.cells [x1]),.ro (.cells [x2])])),(4,.one (.pv x3)),(7,.one (.pv x4)),(8,.one (.pv x5))],[],[],0,19,[]⟩)⟩]
theorem Qkd_s:LEsOK [Qkc_e] TT (kk [0,1,4,7,8]) Qkd_l Tryz.f284 Qkd_l:=⟨fun v K k h=>by
 apply un_all h;exact fun v0 v1 v2 v3 v4 v5 h=>km h
 ,trivial⟩
theorem Qkd_w:EntOK Tryz.prog TT Qkd_e:=ok_ tabok (L:=[Qkc_e]) ⟨Qkc_w,trivial⟩ (keep:=(kk [0,1,4,7,8])) (l:=Qkd_l) Tryz.func284 Qkd_s fun av k h=>by
 unfold Qkd at h;split at h
 ·apply un_all h;clear h;intro a1 h;apply un_all h;clear h;intro a2 h;exact km h
 ·exact h.elim
def Qke:GM
 | [.agg u0,.one a1,.one a2],k=>un 1 (fun a0 =>
  call Qkd [.one a0,.fn 285 [.cells [a1],.cells [a2]]] fun o0 =>
  rt [.sc] [(atP o0 0)] k) u0
 | _,_=>False
abbrev Qke_e:Ent:=⟨[227],Qke⟩
theorem Qke_w:EntOK Tryz.prog TT Qke_e:=okF_ tabok (L:=[Qkd_e]) ⟨Qkd_w,trivial⟩ (keep:=[]) (l:=[]) Tryz.func227 trivial fun av k h=>by
 unfold Qke at h;split at h
 ·apply un_all h;clear h;intro a0 h;exact km h
 ·exact h.elim
def Qkf:GM
 | [.agg u0,.one a1,.one a2],k=>un 1 (fun a0 =>
  call Qke [.agg [a0],.one a1,.one a2] fun o0 =>
  binP .lss (atP o0 0) (I 0) fun r1 =>
  iteP r1
   (rt [.own true 257 17,.sc,.sc,.sc,.sc,.own true 9 1,.sc,.own true 3 1,.sc,.sc,.sc,.sc,.own true 9 1,.sc,.sc,.sc,.own true 9 1,.sc,.own true 3 1,.sc,.own true 3 1] [(.list 17 []),(.bool false),(.str ⟨#[]⟩),(I 0),(I 0),(.list 1 []),(I 0),(.list 1 []),(I 0),(.str ⟨#[]⟩),(I 0),(I 0),(.list 1 []),(.str ⟨#[]⟩),(I 0),(I 0),(.list 1 []),(I 0),(.list 1 []),(I 0),(.list 1 [])] k)
   (elemP 23 a0 (atP o0 0) fun c2 =>
   call Qds [.agg [(atP c2 2),(atP c2 3),(atP c2 4),(atP c2 5),(atP c2 6),(atP c2 7),(atP c2 8),(atP c2 9),(atP c2 10),(atP c2 11),(atP c2 12),(atP c2 13),(atP c2 14),(atP c2 15),(atP c2 16),(atP c2 17),(atP c2 18),(atP c2 19),(atP c2 20),(atP c2 21),(atP c2 22)]] fun o3 =>
   rt [.own true 257 17,.sc,.sc,.sc,.sc,.own true 9 1,.sc,.own true 3 1,.sc,.sc,.sc,.sc,.own true 9 1,.sc,.sc,.sc,.own true 9 1,.sc,.own true 3 1,.sc,.own true 3 1] [(atP o3 0),(atP o3 1),(atP o3 2),(atP o3 3),(atP o3 4),(atP o3 5),(atP o3 6),(atP o3 7),(atP o3 8),(atP o3 9),(atP o3 10),(atP o3 11),(atP o3 12),(atP o3 13),(atP o3 14),(atP o3 15),(atP o3 16),(atP o3 17),(atP o3 18),(atP o3 19),(atP o3 20)] k)) u0
 | _,_=>False
abbrev Qkf_e:Ent:=⟨[161],Qkf⟩
theorem Qkf_w:EntOK Tryz.prog TT Qkf_e:=okF_ tabok (L:=[Qke_e,Qds_e]) ⟨Qke_w,Qds_w,trivial⟩ (keep:=[]) (l:=[]) Tryz.func161 trivial fun av k h=>by
 unfold Qkf at h;split at h
 ·apply un_all h;clear h;intro a0 h;exact km h
 ·exact h.elim
def Qkg_r0 (v:List PV) (K:List PV→Prop) (x0k:PV→PV→PV→PV→PV→PV→PV→Prop):Prop :=
 un 7 (fun v0 v1 v2 v3 v4 v5 v6 =>
  binP .lss v4 v3 fun r0 =>
  iteP r0
   (elemP 2 v2 v4 fun c1 =>
   call Qil [.agg [(atP c1 0),(atP c1 1)],.one v0,.one v1] fun o2 =>
   (1=1)∧(21≤16777216)∧(21=21)∧(0=0)∧(21=21)∧(flatCond [.nil 257 17,zB,.pv (.str ⟨#[]⟩),.pv (I 0),.pv (I 0),.nil 9 1,.pv (I 0),.nil 3 1,.pv (I 0),.pv (.str ⟨#[]⟩),.pv (I 0),.pv (I 0),.nil 9 1,.pv (.str ⟨#[]⟩),.pv (I 0),.pv (I 0),.nil 9 1,.pv (I 0),.nil 3 1,.pv (I 0),.nil 3 1] [.own 3,.pv (atP o2 1),.pv (atP o2 2),.pv (atP o2 3),.pv (atP o2 4),.own 8,.pv (atP o2 6),.own 10,.pv (atP o2 8),.pv (atP o2 9),.pv (atP o2 10),.pv (atP o2 11),.own 15,.pv (atP o2 13),.pv (atP o2 14),.pv (atP o2 15),.own 19,.pv (atP o2 17),.own 21,.pv (atP o2 19),.own 23])∧catP 21 v6 (.list 21 [[(atP o2 0),(atP o2 1),(atP o2 2),(atP o2 3),(atP o2 4),(atP o2 5),(atP o2 6),(atP o2 7),(atP o2 8),(atP o2 9),(atP o2 10),(atP o2 11),(atP o2 12),(atP o2 13),(atP o2 14),(atP o2 15),(atP o2 16),(atP o2 17),(atP o2 18),(atP o2 19),(atP o2 20)]]) fun r3 =>
   binP .add v4 (I 1) fun r4 =>
   K [v0,v1,v2,v3,r4,v5,r3])
   (x0k v0 v1 v2 v3 v4 v5 v6)) v
def Qkg:GM
 | [.one a0,.one a1,.one a2],k =>
  (0=0)∧(0≤16777216)∧(21=21)∧lenP a0 fun r0 =>
  minP (I 4) r0 fun r1 =>
  natP r1 fun n2 =>
  cutP 2 a0 none (some n2) fun r3 =>
  lenP r3 fun r4 =>
  lp (fun L w=>Qkg_r0 w L
   (fun q5 q6 q7 q8 q9 q10 q11=>rt [.own true 150 21] [q11] k)) [a1,a2,r3,r4,(I 0),(.list 21 []),(.list 21 [])]
 | _,_=>False
abbrev Qkg_e:Ent:=⟨[162],Qkg⟩
def Qkg_l:List LE:=[⟨none,0,⟨[(1,.one zB),(2,.one zB),(6,.one (.own 1)),(7,.one (.own 0)),(15,.one zB),(16,.one zB),(17,.one zB)],[],[(1,⟨.deep,150,21,(.bool false)⟩),(0,⟨.deep,150,21,(.bool false)⟩)],2,30,[]⟩,fun K k v=>Qkg_r0 v K (fun x0 x1 x2 x3 x4 x5 x6=>k (.exit 0) ⟨[(1,.one (.pv x0)),(2,.one (.pv x1)),(6,.one (.own 1)),(7,.one (.own 0)),(15,.one (.pv x2)),(16,.one (.pv x3)),(17,.one (.pv x4))],[],[(1,⟨.deep,150,21,x5⟩),(0,⟨.deep,150,21,x6⟩)],2,30,[]⟩)⟩]
theorem Qkg_s:LEsOK [Qil_e] TT.nofl (kk [1,2,6,7,15,16,17,999999]) Qkg_l Tryz.f162 Qkg_l:=⟨fun v K k h=>by
 apply un_all h;exact fun v0 v1 v2 v3 v4 v5 v6 h=>km h
 ,trivial⟩
theorem Qkg_w:EntOK Tryz.prog TT Qkg_e:=okF_ tabok (L:=[Qil_e]) ⟨Qil_w,trivial⟩ (keep:=(kk [1,2,6,7,15,16,17,999999])) (l:=Qkg_l) Tryz.func162 Qkg_s fun av k h=>by
 unfold Qkg at h;split at h
 ·exact km h
 ·exact h.elim
def Qkh:GM
 | [.agg u0,.one a1,.one a2,.agg u1,.one a24],k=>un 1 (fun a0=>un 21 (fun a3 a4 a5 a6 a7 a8 a9 a10 a11 a12 a13 a14 a15 a16 a17 a18 a19 a20 a21 a22 a23 =>
  call Qdu [.agg [a0]] fun o0 =>
  call Qiz [.one a1,.one a2,.agg [a3,a4,a5,a6,a7,a8,a9,a10,a11,a12,a13,a14,a15,a16,a17,a18,a19,a20,a21,a22,a23],.one a24] fun o1 =>
  binP .neq (atP o1 0) (I 1) fun r2 =>
  iteP r2
   (rt [.own true 221 23] [(atP o0 0)] k)
   (call Qds [.agg [a3,a4,a5,a6,a7,a8,a9,a10,a11,a12,a13,a14,a15,a16,a17,a18,a19,a20,a21,a22,a23]] fun o3 =>
   call Qke [.agg [a0],.one a1,.one a2] fun o4 =>
   binP .geq (atP o4 0) (I 0) fun r5 =>
   iteP r5
    (boundP 23 (atP o0 0) (atP o4 0) fun n6 =>
    (flatCond [.pv (I 0),.pv (.str ⟨#[]⟩),.nil 257 17,zB,.pv (.str ⟨#[]⟩),.pv (I 0),.pv (I 0),.nil 9 1,.pv (I 0),.nil 3 1,.pv (I 0),.pv (.str ⟨#[]⟩),.pv (I 0),.pv (I 0),.nil 9 1,.pv (.str ⟨#[]⟩),.pv (I 0),.pv (I 0),.nil 9 1,.pv (I 0),.nil 3 1,.pv (I 0),.nil 3 1] [.pv a1,.pv a2,.own 6,.pv (atP o3 1),.pv (atP o3 2),.pv (atP o3 3),.pv (atP o3 4),.own 11,.pv (atP o3 6),.own 13,.pv (atP o3 8),.pv (atP o3 9),.pv (atP o3 10),.pv (atP o3 11),.own 18,.pv (atP o3 13),.pv (atP o3 14),.pv (atP o3 15),.own 22,.pv (atP o3 17),.own 24,.pv (atP o3 19),.own 26])∧setP (atP o0 0) n6 0 [a1,a2,(atP o3 0),(atP o3 1),(atP o3 2),(atP o3 3),(atP o3 4),(atP o3 5),(atP o3 6),(atP o3 7),(atP o3 8),(atP o3 9),(atP o3 10),(atP o3 11),(atP o3 12),(atP o3 13),(atP o3 14),(atP o3 15),(atP o3 16),(atP o3 17),(atP o3 18),(atP o3 19),(atP o3 20)] fun r7 =>
    rt [.own true 221 23] [r7] k)
    (lenP a0 fun r8 =>
    binP .lss r8 (I 16) fun r9 =>
    iteP r9
     ((1=1)∧(23≤16777216)∧(23=23)∧(0=0)∧(23=23)∧(flatCond [.pv (I 0),.pv (.str ⟨#[]⟩),.nil 257 17,zB,.pv (.str ⟨#[]⟩),.pv (I 0),.pv (I 0),.nil 9 1,.pv (I 0),.nil 3 1,.pv (I 0),.pv (.str ⟨#[]⟩),.pv (I 0),.pv (I 0),.nil 9 1,.pv (.str ⟨#[]⟩),.pv (I 0),.pv (I 0),.nil 9 1,.pv (I 0),.nil 3 1,.pv (I 0),.nil 3 1] [.pv a1,.pv a2,.own 6,.pv (atP o3 1),.pv (atP o3 2),.pv (atP o3 3),.pv (atP o3 4),.own 11,.pv (atP o3 6),.own 13,.pv (atP o3 8),.pv (atP o3 9),.pv (atP o3 10),.pv (atP o3 11),.own 18,.pv (atP o3 13),.pv (atP o3 14),.pv (atP o3 15),.own 22,.pv (atP o3 17),.own 24,.pv (atP o3 19),.own 26])∧catP 23 (atP o0 0) (.list 23 [[a1,a2,(atP o3 0),(atP o3 1),(atP o3 2),(atP o3 3),(atP o3 4),(atP o3 5),(atP o3 6),(atP o3 7),(atP o3 8),(atP o3 9),(atP o3 10),(atP o3 11),(atP o3 12),(atP o3 13),(atP o3 14),(atP o3 15),(atP o3 16),(atP o3 17),(atP o3 18),(atP o3 19),(atP o3 20)]]) fun r10 =>
     rt [.own true 221 23] [r10] k)
     (rt [.own true 221 23] [(atP o0 0)] k)))) u1) u0
 | _,_=>False
abbrev Qkh_e:Ent:=⟨[164],Qkh⟩
theorem Qkh_w:EntOK Tryz.prog TT Qkh_e:=okF_ tabok (L:=[Qdu_e,Qiz_e,Qds_e,Qke_e]) ⟨Qdu_w,Qiz_w,Qds_w,Qke_w,trivial⟩ (keep:=[]) (l:=[]) Tryz.func164 trivial fun av k h=>by
 unfold Qkh at h;split at h
 ·apply un_all h;clear h;intro a0 h;apply un_all h;clear h;intro a3 a4 a5 a6 a7 a8 a9 a10 a11 a12 a13 a14 a15 a16 a17 a18 a19 a20 a21 a22 a23 h;exact km h
 ·exact h.elim
end Go.Ev
