/- The tables of this load, and for each function the meaning that the evaluator gives it, with its proof, part 3. -/
import Derived.Test.YtmhmcamcenidaaaGreatFn2
set_option maxRecDepth 100000
set_option linter.unusedVariables false
namespace Go.Ev
open Go.Proofs
def Qgs:GM
 | [.agg u0,.agg u1],k=>un 16 (fun a0 a1 a2 a3 a4 a5 a6 a7 a8 a9 a10 a11 a12 a13 a14 a15=>un 16 (fun a16 a17 a18 a19 a20 a21 a22 a23 a24 a25 a26 a27 a28 a29 a30 a31 =>
  binP .eql a5 a21 fun r0 =>
  iteP r0
   (binP .eql a6 a22 fun r1 =>
   rt [.sc] [r1] k)
   (rt [.sc] [(.bool false)] k)) u1) u0
 | _,_=>False
abbrev Qgs_e:Ent:=⟨[415],Qgs⟩
theorem Qgs_w:EntOK Tryz.prog TT Qgs_e:=okF_ tabok (L:=[]) trivial (keep:=[]) (l:=[]) Tryz.func415 trivial fun av k h=>by
 unfold Qgs at h;split at h
 ·apply un_all h;clear h;intro a0 a1 a2 a3 a4 a5 a6 a7 a8 a9 a10 a11 a12 a13 a14 a15 h;apply un_all h;clear h;intro a16 a17 a18 a19 a20 a21 a22 a23 a24 a25 a26 a27 a28 a29 a30 a31 h;exact km h
 ·exact h.elim
def Qgt:GM
 | [.agg u0,.agg u1],k=>un 16 (fun a0 a1 a2 a3 a4 a5 a6 a7 a8 a9 a10 a11 a12 a13 a14 a15=>un 17 (fun a16 a17 a18 a19 a20 a21 a22 a23 a24 a25 a26 a27 a28 a29 a30 a31 a32 =>
  iteP a15
   (rt [.sc] [(I 4)] k)
   (call Qfr [.agg [a10,a11]] fun o0 =>
   iteP (atP o0 0)
    (rt [.sc] [(I 5)] k)
    (binP .add a4 a12 fun r1 =>
    binP .lss a19 r1 fun r2 =>
    iteP r2
     (rt [.sc] [(I 5)] k)
     (iteP a31
      (rt [.sc] [(I 6)] k)
      (call Qgr [.agg [a24,a25],.agg [a10,a11]] fun o3 =>
      unP .not (atP o3 0) fun r4 =>
      iteP r4
       (rt [.sc] [(I 6)] k)
       (call Qgs [.agg [a16,a17,a18,a19,a20,a21,a22,a23,a24,a25,a26,a27,a28,a29,a30,a31],.agg [a0,a1,a2,a3,a4,a5,a6,a7,a8,a9,a10,a11,a12,a13,a14,a15]] fun o5 =>
       unP .not (atP o5 0) fun r6 =>
       iteP r6
        (rt [.sc] [(I 6)] k)
        (call Qgl [.agg [a16,a17,a18,a19,a20,a21,a22,a23,a24,a25,a26,a27,a28,a29,a30,a31,a32],.agg [a10,a11]] fun o7 =>
        unP .not (atP o7 0) fun r8 =>
        iteP r8
         (rt [.sc] [(I 7)] k)
         (rt [.sc] [(I 1)] k)))))))) u1) u0
 | _,_=>False
abbrev Qgt_e:Ent:=⟨[381],Qgt⟩
theorem Qgt_w:EntOK Tryz.prog TT Qgt_e:=okF_ tabok (L:=[Qfr_e,Qgr_e,Qgs_e,Qgl_e]) ⟨Qfr_w,Qgr_w,Qgs_w,Qgl_w,trivial⟩ (keep:=[]) (l:=[]) Tryz.func381 trivial fun av k h=>by
 unfold Qgt at h;split at h
 ·apply un_all h;clear h;intro a0 a1 a2 a3 a4 a5 a6 a7 a8 a9 a10 a11 a12 a13 a14 a15 h;apply un_all h;clear h;intro a16 a17 a18 a19 a20 a21 a22 a23 a24 a25 a26 a27 a28 a29 a30 a31 a32 h;exact km h
 ·exact h.elim
def Qgu:GM
 | [.agg u0,.agg u1],k=>un 16 (fun a0 a1 a2 a3 a4 a5 a6 a7 a8 a9 a10 a11 a12 a13 a14 a15=>un 17 (fun a16 a17 a18 a19 a20 a21 a22 a23 a24 a25 a26 a27 a28 a29 a30 a31 a32 =>
  call Qgs [.agg [a16,a17,a18,a19,a20,a21,a22,a23,a24,a25,a26,a27,a28,a29,a30,a31],.agg [a0,a1,a2,a3,a4,a5,a6,a7,a8,a9,a10,a11,a12,a13,a14,a15]] fun o0 =>
  iteP (atP o0 0)
   (call Qgr [.agg [a29,a30],.agg [a13,a14]] fun o1 =>
   iteP (atP o1 0)
    (call Qgr [.agg [a26,a27],.agg [a10,a11]] fun o2 =>
    iteP (atP o2 0)
     (binP .eql a28 a12 fun r3 =>
     call Qfr [.agg [a13,a14]] fun o4 =>
     iteP (atP o4 0)
      (rt [.sc] [(I 5)] k)
      (boolP .eql a31 a15 fun r5 =>
      iteP r5
       (rt [.sc] [(I 6)] k)
       (unP .not r3 fun r6 =>
       iteP r6
        (rt [.sc] [(I 6)] k)
        (iteP a31
         (call Qgr [.agg [a24,a25],.agg [a8,a9]] fun o7 =>
         unP .not (atP o7 0) fun r8 =>
         iteP r8
          (rt [.sc] [(I 6)] k)
          (call Qgl [.agg [a16,a17,a18,a19,a20,a21,a22,a23,a24,a25,a26,a27,a28,a29,a30,a31,a32],.agg [a13,a14]] fun o9 =>
          unP .not (atP o9 0) fun r10 =>
          iteP r10
           (rt [.sc] [(I 7)] k)
           (rt [.sc] [(I 1)] k)))
         (call Qgl [.agg [a16,a17,a18,a19,a20,a21,a22,a23,a24,a25,a26,a27,a28,a29,a30,a31,a32],.agg [a13,a14]] fun o11 =>
         unP .not (atP o11 0) fun r12 =>
         iteP r12
          (rt [.sc] [(I 7)] k)
          (rt [.sc] [(I 1)] k))))))
     (call Qfr [.agg [a13,a14]] fun o13 =>
     iteP (atP o13 0)
      (rt [.sc] [(I 5)] k)
      (boolP .eql a31 a15 fun r14 =>
      iteP r14
       (rt [.sc] [(I 6)] k)
       (rt [.sc] [(I 6)] k))))
    (call Qfr [.agg [a13,a14]] fun o15 =>
    iteP (atP o15 0)
     (rt [.sc] [(I 5)] k)
     (boolP .eql a31 a15 fun r16 =>
     iteP r16
      (rt [.sc] [(I 6)] k)
      (rt [.sc] [(I 6)] k))))
   (call Qfr [.agg [a13,a14]] fun o17 =>
   iteP (atP o17 0)
    (rt [.sc] [(I 5)] k)
    (boolP .eql a31 a15 fun r18 =>
    iteP r18
     (rt [.sc] [(I 6)] k)
     (rt [.sc] [(I 6)] k)))) u1) u0
 | _,_=>False
abbrev Qgu_e:Ent:=⟨[382],Qgu⟩
theorem Qgu_w:EntOK Tryz.prog TT Qgu_e:=okF_ tabok (L:=[Qgs_e,Qgr_e,Qfr_e,Qgl_e]) ⟨Qgs_w,Qgr_w,Qfr_w,Qgl_w,trivial⟩ (keep:=[]) (l:=[]) Tryz.func382 trivial fun av k h=>by
 unfold Qgu at h;split at h
 ·apply un_all h;clear h;intro a0 a1 a2 a3 a4 a5 a6 a7 a8 a9 a10 a11 a12 a13 a14 a15 h;apply un_all h;clear h;intro a16 a17 a18 a19 a20 a21 a22 a23 a24 a25 a26 a27 a28 a29 a30 a31 a32 h;exact km h
 ·exact h.elim
def Qgv:GM
 | [.agg u0,.agg u1],k=>un 16 (fun a0 a1 a2 a3 a4 a5 a6 a7 a8 a9 a10 a11 a12 a13 a14 a15=>un 17 (fun a16 a17 a18 a19 a20 a21 a22 a23 a24 a25 a26 a27 a28 a29 a30 a31 a32 =>
  call Qfu [.agg [a0,a1,a2,a3,a4,a5,a6,a7,a8,a9,a10,a11,a12,a13,a14,a15]] fun o0 =>
  unP .not (atP o0 0) fun r1 =>
  iteP r1
   (rt [.sc] [(I 2)] k)
   (call Qfu [.agg [a16,a17,a18,a19,a20,a21,a22,a23,a24,a25,a26,a27,a28,a29,a30,a31]] fun o2 =>
   unP .not (atP o2 0) fun r3 =>
   iteP r3
    (rt [.sc] [(I 2)] k)
    (call Qgo [.agg [a0,a1,a2,a3,a4,a5,a6,a7,a8,a9,a10,a11,a12,a13,a14,a15],.agg [a16,a17,a18,a19,a20,a21,a22,a23,a24,a25,a26,a27,a28,a29,a30,a31]] fun o4 =>
    unP .not (atP o4 0) fun r5 =>
    iteP r5
     (rt [.sc] [(I 3)] k)
     (binP .eql a18 (I 1) fun r6 =>
     iteP r6
      (call Qgp [.agg [a0,a1,a2,a3,a4,a5,a6,a7,a8,a9,a10,a11,a12,a13,a14,a15],.agg [a16,a17,a18,a19,a20,a21,a22,a23,a24,a25,a26,a27,a28,a29,a30,a31,a32]] fun o7 =>
      rt [.sc] [(atP o7 0)] k)
      (binP .eql a18 (I 2) fun r8 =>
      iteP r8
       (call Qgt [.agg [a0,a1,a2,a3,a4,a5,a6,a7,a8,a9,a10,a11,a12,a13,a14,a15],.agg [a16,a17,a18,a19,a20,a21,a22,a23,a24,a25,a26,a27,a28,a29,a30,a31,a32]] fun o9 =>
       rt [.sc] [(atP o9 0)] k)
       (call Qgu [.agg [a0,a1,a2,a3,a4,a5,a6,a7,a8,a9,a10,a11,a12,a13,a14,a15],.agg [a16,a17,a18,a19,a20,a21,a22,a23,a24,a25,a26,a27,a28,a29,a30,a31,a32]] fun o10 =>
       rt [.sc] [(atP o10 0)] k)))))) u1) u0
 | _,_=>False
abbrev Qgv_e:Ent:=⟨[331],Qgv⟩
theorem Qgv_w:EntOK Tryz.prog TT Qgv_e:=okF_ tabok (L:=[Qfu_e,Qgo_e,Qgp_e,Qgt_e,Qgu_e]) ⟨Qfu_w,Qgo_w,Qgp_w,Qgt_w,Qgu_w,trivial⟩ (keep:=[]) (l:=[]) Tryz.func331 trivial fun av k h=>by
 unfold Qgv at h;split at h
 ·apply un_all h;clear h;intro a0 a1 a2 a3 a4 a5 a6 a7 a8 a9 a10 a11 a12 a13 a14 a15 h;apply un_all h;clear h;intro a16 a17 a18 a19 a20 a21 a22 a23 a24 a25 a26 a27 a28 a29 a30 a31 a32 h;exact km h
 ·exact h.elim
def Qgw:GM
 | [.agg u0,.agg u1],k=>un 16 (fun a0 a1 a2 a3 a4 a5 a6 a7 a8 a9 a10 a11 a12 a13 a14 a15=>un 17 (fun a16 a17 a18 a19 a20 a21 a22 a23 a24 a25 a26 a27 a28 a29 a30 a31 a32 =>
  call Qgv [.agg [a0,a1,a2,a3,a4,a5,a6,a7,a8,a9,a10,a11,a12,a13,a14,a15],.agg [a16,a17,a18,a19,a20,a21,a22,a23,a24,a25,a26,a27,a28,a29,a30,a31,a32]] fun o0 =>
  binP .eql (atP o0 0) (I 1) fun r1 =>
  rt [.sc] [r1] k) u1) u0
 | _,_=>False
abbrev Qgw_e:Ent:=⟨[364],Qgw⟩
theorem Qgw_w:EntOK Tryz.prog TT Qgw_e:=okF_ tabok (L:=[Qgv_e]) ⟨Qgv_w,trivial⟩ (keep:=[]) (l:=[]) Tryz.func364 trivial fun av k h=>by
 unfold Qgw at h;split at h
 ·apply un_all h;clear h;intro a0 a1 a2 a3 a4 a5 a6 a7 a8 a9 a10 a11 a12 a13 a14 a15 h;apply un_all h;clear h;intro a16 a17 a18 a19 a20 a21 a22 a23 a24 a25 a26 a27 a28 a29 a30 a31 a32 h;exact km h
 ·exact h.elim
def Qgx_r0 (v:List PV) (K:List PV→Prop) (x0k:PV→PV→PV→PV→PV→PV→PV→PV→PV→PV→PV→PV→PV→PV→PV→PV→PV→PV→Prop) (x1k:PV→PV→PV→PV→PV→PV→PV→PV→PV→PV→PV→PV→PV→PV→PV→PV→PV→PV→Prop) (x2k:PV→PV→PV→PV→PV→Prop):Prop :=
 un 5 (fun v0 v1 v2 v3 v4 =>
  binP .lss v4 v3 fun r0 =>
  iteP r0
   (elemP 17 v2 v4 fun c1 =>
   binP .eql v4 (I 0) fun r2 =>
   iteP r2
    (call Qgm [.agg [(atP c1 0),(atP c1 1),(atP c1 2),(atP c1 3),(atP c1 4),(atP c1 5),(atP c1 6),(atP c1 7),(atP c1 8),(atP c1 9),(atP c1 10),(atP c1 11),(atP c1 12),(atP c1 13),(atP c1 14),(atP c1 15),(atP c1 16)]] fun o3 =>
    unP .not (atP o3 0) fun r4 =>
    iteP r4
     (x0k v4 (atP c1 0) (atP c1 1) (atP c1 2) (atP c1 3) (atP c1 4) (atP c1 5) (atP c1 6) (atP c1 7) (atP c1 8) (atP c1 9) (atP c1 10) (atP c1 11) (atP c1 12) (atP c1 13) (atP c1 14) (atP c1 15) (atP c1 16))
     (binP .gtr v4 (I 0) fun r5 =>
     iteP r5
      (binP .sub v4 (I 1) fun r6 =>
      elemP 17 v0 r6 fun c7 =>
      call Qgw [.agg [(atP c7 0),(atP c7 1),(atP c7 2),(atP c7 3),(atP c7 4),(atP c7 5),(atP c7 6),(atP c7 7),(atP c7 8),(atP c7 9),(atP c7 10),(atP c7 11),(atP c7 12),(atP c7 13),(atP c7 14),(atP c7 15)],.agg [(atP c1 0),(atP c1 1),(atP c1 2),(atP c1 3),(atP c1 4),(atP c1 5),(atP c1 6),(atP c1 7),(atP c1 8),(atP c1 9),(atP c1 10),(atP c1 11),(atP c1 12),(atP c1 13),(atP c1 14),(atP c1 15),(atP c1 16)]] fun o8 =>
      unP .not (atP o8 0) fun r9 =>
      iteP r9
       (x1k v4 (atP c1 0) (atP c1 1) (atP c1 2) (atP c1 3) (atP c1 4) (atP c1 5) (atP c1 6) (atP c1 7) (atP c1 8) (atP c1 9) (atP c1 10) (atP c1 11) (atP c1 12) (atP c1 13) (atP c1 14) (atP c1 15) (atP c1 16))
       (binP .add v4 (I 1) fun r10 =>
       K [v0,v1,v2,v3,r10]))
      (binP .add v4 (I 1) fun r11 =>
      K [v0,v1,v2,v3,r11])))
    (binP .gtr v4 (I 0) fun r12 =>
    iteP r12
     (binP .sub v4 (I 1) fun r13 =>
     elemP 17 v0 r13 fun c14 =>
     call Qgw [.agg [(atP c14 0),(atP c14 1),(atP c14 2),(atP c14 3),(atP c14 4),(atP c14 5),(atP c14 6),(atP c14 7),(atP c14 8),(atP c14 9),(atP c14 10),(atP c14 11),(atP c14 12),(atP c14 13),(atP c14 14),(atP c14 15)],.agg [(atP c1 0),(atP c1 1),(atP c1 2),(atP c1 3),(atP c1 4),(atP c1 5),(atP c1 6),(atP c1 7),(atP c1 8),(atP c1 9),(atP c1 10),(atP c1 11),(atP c1 12),(atP c1 13),(atP c1 14),(atP c1 15),(atP c1 16)]] fun o15 =>
     unP .not (atP o15 0) fun r16 =>
     iteP r16
      (x0k v4 (atP c1 0) (atP c1 1) (atP c1 2) (atP c1 3) (atP c1 4) (atP c1 5) (atP c1 6) (atP c1 7) (atP c1 8) (atP c1 9) (atP c1 10) (atP c1 11) (atP c1 12) (atP c1 13) (atP c1 14) (atP c1 15) (atP c1 16))
      (binP .add v4 (I 1) fun r17 =>
      K [v0,v1,v2,v3,r17]))
     (binP .add v4 (I 1) fun r18 =>
     K [v0,v1,v2,v3,r18])))
   (x2k v0 v1 v2 v3 v4)) v
def Qgx:GM
 | [.one a0],k =>
  lenP a0 fun r0 =>
  lp (fun L w=>Qgx_r0 w L
   (fun q19 q20 q21 q22 q23 q24 q25 q26 q27 q28 q29 q30 q31 q32 q33 q34 q35 q36=>rt [.sc] [q19] k)
   (fun q37 q38 q39 q40 q41 q42 q43 q44 q45 q46 q47 q48 q49 q50 q51 q52 q53 q54=>rt [.sc] [q37] k)
   (fun q55 q56 q57 q58 q59=>rt [.sc] [(I (-1))] k)) [a0,(I 0),a0,r0,(I 0)]
 | _,_=>False
abbrev Qgx_e:Ent:=⟨[318],Qgx⟩
def Qgx_l:List LE:=[⟨none,0,⟨[(0,.one zB),(2,.one zB),(5,.one zB),(6,.one zB),(7,.one zB)],[],[],0,36,[]⟩,fun K k v=>Qgx_r0 v K (fun x0 x1 x2 x3 x4 x5 x6 x7 x8 x9 x10 x11 x12 x13 x14 x15 x16 x17=>k .ret ⟨[(2,.one (.pv x0))],[(0,[.pv x1,.pv x2,.pv x3,.pv x4,.pv x5,.pv x6,.pv x7,.pv x8,.pv x9,.pv x10,.pv x11,.pv x12,.pv x13,.pv x14,.pv x15,.pv x16,.pv x17]),(0,[.pv (I 0),.pv (I 0),.pv (I 0),.pv (I 0),.pv (I 0),.pv (I 0),.pv (I 0),.pv (I 0),.nil 3 1,.pv (I 0),.nil 3 1,.pv (I 0),.pv (I 0),.nil 3 1,.pv (I 0),zB,.nil 317 2])],[],2,36,[]⟩) (fun x0 x1 x2 x3 x4 x5 x6 x7 x8 x9 x10 x11 x12 x13 x14 x15 x16 x17=>k .ret ⟨[(2,.one (.pv x0))],[(0,[.pv x1,.pv x2,.pv x3,.pv x4,.pv x5,.pv x6,.pv x7,.pv x8,.pv x9,.pv x10,.pv x11,.pv x12,.pv x13,.pv x14,.pv x15,.pv x16,.pv x17]),(0,[.pv (I 0),.pv (I 0),.pv (I 0),.pv (I 0),.pv (I 0),.pv (I 0),.pv (I 0),.pv (I 0),.nil 3 1,.pv (I 0),.nil 3 1,.pv (I 0),.pv (I 0),.nil 3 1,.pv (I 0),zB,.nil 317 2])],[],3,36,[]⟩) (fun x0 x1 x2 x3 x4=>k (.exit 0) ⟨[(0,.one (.pv x0)),(2,.one (.pv x1)),(5,.one (.pv x2)),(6,.one (.pv x3)),(7,.one (.pv x4))],[],[],0,36,[]⟩)⟩]
theorem Qgx_s:LEsOK [Qgm_e,Qgw_e] TT.nofl (kk [0,2,5,6,7,15,16,17,20,21,22,23,24,25,26,27,28,29,30,31,32]) Qgx_l Tryz.f318 Qgx_l:=⟨fun v K k h=>by
 apply un_all h;exact fun v0 v1 v2 v3 v4 h=>km h
 ,trivial⟩
theorem Qgx_w:EntOK Tryz.prog TT Qgx_e:=okF_ tabok (L:=[Qgm_e,Qgw_e]) ⟨Qgm_w,Qgw_w,trivial⟩ (keep:=(kk [0,2,5,6,7,15,16,17,20,21,22,23,24,25,26,27,28,29,30,31,32])) (l:=Qgx_l) Tryz.func318 Qgx_s fun av k h=>by
 unfold Qgx at h;split at h
 ·exact km h
 ·exact h.elim
def Qgy:GM
 | [.one a0],k =>
  lenP a0 fun r0 =>
  call Qfl [.one r0,.one (I 1),.one (I 12)] fun o1 =>
  iteP (atP o1 0)
   (call Qgx [.one a0] fun o2 =>
   binP .lss (atP o2 0) (I 0) fun r3 =>
   rt [.sc] [r3] k)
   (rt [.sc] [(.bool false)] k)
 | _,_=>False
abbrev Qgy_e:Ent:=⟨[267],Qgy⟩
theorem Qgy_w:EntOK Tryz.prog TT Qgy_e:=okF_ tabok (L:=[Qfl_e,Qgx_e]) ⟨Qfl_w,Qgx_w,trivial⟩ (keep:=[]) (l:=[]) Tryz.func267 trivial fun av k h=>by
 unfold Qgy at h;split at h
 ·exact km h
 ·exact h.elim
def Qgz:GM
 | [.one a0],k =>
  lenP a0 fun r0 =>
  binP .sub r0 (I 1) fun r1 =>
  elemP 17 a0 r1 fun c2 =>
  rt [.sc,.sc,.sc,.sc,.sc,.sc,.sc,.sc,.pv,.sc,.pv,.sc,.sc,.pv,.sc,.sc] [(atP c2 0),(atP c2 1),(atP c2 2),(atP c2 3),(atP c2 4),(atP c2 5),(atP c2 6),(atP c2 7),(atP c2 8),(atP c2 9),(atP c2 10),(atP c2 11),(atP c2 12),(atP c2 13),(atP c2 14),(atP c2 15)] k
 | _,_=>False
abbrev Qgz_e:Ent:=⟨[261],Qgz⟩
theorem Qgz_w:EntOK Tryz.prog TT Qgz_e:=okF_ tabok (L:=[]) trivial (keep:=[]) (l:=[]) Tryz.func261 trivial fun av k h=>by
 unfold Qgz at h;split at h
 ·exact km h
 ·exact h.elim
def Qha_r0 (v:List PV) (K:List PV→Prop) (x0k:Prop) (x1k:PV→PV→PV→PV→Prop):Prop :=
 un 4 (fun v0 v1 v2 v3 =>
  binP .lss v3 v2 fun r0 =>
  iteP r0
   (charP v0 v3 fun r1 =>
   binP .geq r1 (.int .u8 97) fun r2 =>
   iteP r2
    (binP .leq r1 (.int .u8 122) fun r3 =>
    iteP r3
     (binP .add v3 (I 1) fun r4 =>
     K [v0,v1,v2,r4])
     (binP .geq r1 (.int .u8 48) fun r5 =>
     iteP r5
      (binP .leq r1 (.int .u8 57) fun r6 =>
      iteP r6
       (binP .add v3 (I 1) fun r7 =>
       K [v0,v1,v2,r7])
       (binP .eql r1 (.int .u8 45) fun r8 =>
       iteP r8
        (binP .gtr v3 (I 0) fun r9 =>
        iteP r9
         (lenS v0 fun r10 =>
         binP .sub r10 (I 1) fun r11 =>
         binP .lss v3 r11 fun r12 =>
         unP .not r12 fun r13 =>
         iteP r13
          (x0k)
          (binP .add v3 (I 1) fun r14 =>
          K [v0,v1,v2,r14]))
         (x0k))
        (x0k)))
      (binP .eql r1 (.int .u8 45) fun r15 =>
      iteP r15
       (binP .gtr v3 (I 0) fun r16 =>
       iteP r16
        (lenS v0 fun r17 =>
        binP .sub r17 (I 1) fun r18 =>
        binP .lss v3 r18 fun r19 =>
        unP .not r19 fun r20 =>
        iteP r20
         (x0k)
         (binP .add v3 (I 1) fun r21 =>
         K [v0,v1,v2,r21]))
        (x0k))
       (x0k))))
    (binP .geq r1 (.int .u8 48) fun r22 =>
    iteP r22
     (binP .leq r1 (.int .u8 57) fun r23 =>
     iteP r23
      (binP .add v3 (I 1) fun r24 =>
      K [v0,v1,v2,r24])
      (binP .eql r1 (.int .u8 45) fun r25 =>
      iteP r25
       (binP .gtr v3 (I 0) fun r26 =>
       iteP r26
        (lenS v0 fun r27 =>
        binP .sub r27 (I 1) fun r28 =>
        binP .lss v3 r28 fun r29 =>
        unP .not r29 fun r30 =>
        iteP r30
         (x0k)
         (binP .add v3 (I 1) fun r31 =>
         K [v0,v1,v2,r31]))
        (x0k))
       (x0k)))
     (binP .eql r1 (.int .u8 45) fun r32 =>
     iteP r32
      (binP .gtr v3 (I 0) fun r33 =>
      iteP r33
       (lenS v0 fun r34 =>
       binP .sub r34 (I 1) fun r35 =>
       binP .lss v3 r35 fun r36 =>
       unP .not r36 fun r37 =>
       iteP r37
        (x0k)
        (binP .add v3 (I 1) fun r38 =>
        K [v0,v1,v2,r38]))
       (x0k))
      (x0k))))
   (x1k v0 v1 v2 v3)) v
def Qha:GM
 | [.one a0],k =>
  lenS a0 fun r0 =>
  lp (fun L w=>Qha_r0 w L
   (rt [.sc] [(.bool false)] k)
   (fun q39 q40 q41 q42=>lenS q39 fun r43 =>
    call Qfl [.one r43,.one (I 1),.one (I 8)] fun o44 =>
    rt [.sc] [(atP o44 0)] k)) [a0,(.bool false),r0,(I 0)]
 | _,_=>False
abbrev Qha_e:Ent:=⟨[283],Qha⟩
def Qha_l:List LE:=[⟨none,0,⟨[(0,.one zB),(2,.one zB),(6,.one zB),(7,.one zB)],[],[],0,47,[]⟩,fun K k v=>Qha_r0 v K (k .ret ⟨[(2,.one (.kb false))],[],[],0,47,[]⟩) (fun x0 x1 x2 x3=>k (.exit 0) ⟨[(0,.one (.pv x0)),(2,.one (.pv x1)),(6,.one (.pv x2)),(7,.one (.pv x3))],[],[],0,47,[]⟩)⟩]
theorem Qha_s:LEsOK [Qfl_e] TT.nofl (kk [0,2,6,7,16,17,20,21,22,23,24,25,28,29,30,31,32,33,34,35,36,37,38,39,40]) Qha_l Tryz.f283 Qha_l:=⟨fun v K k h=>by
 apply un_all h;exact fun v0 v1 v2 v3 h=>km h
 ,trivial⟩
theorem Qha_w:EntOK Tryz.prog TT Qha_e:=okF_ tabok (L:=[Qfl_e]) ⟨Qfl_w,trivial⟩ (keep:=(kk [0,2,6,7,16,17,20,21,22,23,24,25,28,29,30,31,32,33,34,35,36,37,38,39,40])) (l:=Qha_l) Tryz.func283 Qha_s fun av k h=>by
 unfold Qha at h;split at h
 ·exact km h
 ·exact h.elim
def Qhb:GM
 | [.one a0],k =>
  call Qha [.one a0] fun o0 =>
  unP .not (atP o0 0) fun r1 =>
  rt [.sc] [r1] k
 | _,_=>False
abbrev Qhb_e:Ent:=⟨[282],Qhb⟩
theorem Qhb_w:EntOK Tryz.prog TT Qhb_e:=okF_ tabok (L:=[Qha_e]) ⟨Qha_w,trivial⟩ (keep:=[]) (l:=[]) Tryz.func282 trivial fun av k h=>by
 unfold Qhb at h;split at h
 ·exact km h
 ·exact h.elim
def Qhc_r0 (v:List PV) (K:List PV→Prop) (x0k:PV→Prop) (x1k:PV→PV→PV→PV→Prop):Prop :=
 un 4 (fun v0 v1 v2 v3 =>
  binP .lss v3 v2 fun r0 =>
  iteP r0
   (elemP 1 v0 v3 fun c1 =>
   call Qhb [.one (atP c1 0)] fun o2 =>
   iteP (atP o2 0)
    (x0k v3)
    (binP .add v3 (I 1) fun r3 =>
    K [v0,v1,v2,r3]))
   (x1k v0 v1 v2 v3)) v
def Qhc:GM
 | [.one a0,.fn 282 []],k =>
  lenP a0 fun r0 =>
  lp (fun L w=>Qhc_r0 w L
   (fun q4=>rt [.sc] [q4] k)
   (fun q5 q6 q7 q8=>rt [.sc] [(I (-1))] k)) [a0,(I 0),r0,(I 0)]
 | _,_=>False
abbrev Qhc_e:Ent:=⟨[333,282],Qhc⟩
def Qhc_l:List LE:=[⟨none,0,⟨[(0,.one zB),(1,.one (.fn 282 [])),(4,.one zB),(7,.one zB),(8,.one zB)],[],[],0,19,[]⟩,fun K k v=>Qhc_r0 v K (fun x0=>k .ret ⟨[(4,.one (.pv x0))],[],[],1,19,[]⟩) (fun x0 x1 x2 x3=>k (.exit 0) ⟨[(0,.one (.pv x0)),(1,.one (.fn 282 [])),(4,.one (.pv x1)),(7,.one (.pv x2)),(8,.one (.pv x3))],[],[],0,19,[]⟩)⟩]
theorem Qhc_s:LEsOK [Qhb_e] TT (kk [0,1,4,7,8]) Qhc_l Tryz.f333 Qhc_l:=⟨fun v K k h=>by
 apply un_all h;exact fun v0 v1 v2 v3 h=>km h
 ,trivial⟩
theorem Qhc_w:EntOK Tryz.prog TT Qhc_e:=ok_ tabok (L:=[Qhb_e]) ⟨Qhb_w,trivial⟩ (keep:=(kk [0,1,4,7,8])) (l:=Qhc_l) Tryz.func333 Qhc_s fun av k h=>by
 unfold Qhc at h;split at h
 ·exact km h
 ·exact h.elim
def Qhd:GM
 | [.one a0,.fn 282 []],k =>
  call Qhc [.one a0,.fn 282 []] fun o0 =>
  binP .geq (atP o0 0) (I 0) fun r1 =>
  rt [.sc] [r1] k
 | _,_=>False
abbrev Qhd_e:Ent:=⟨[281,282],Qhd⟩
theorem Qhd_w:EntOK Tryz.prog TT Qhd_e:=ok_ tabok (L:=[Qhc_e]) ⟨Qhc_w,trivial⟩ (keep:=[]) (l:=[]) Tryz.func281 trivial fun av k h=>by
 unfold Qhd at h;split at h
 ·exact km h
 ·exact h.elim
def Qhe:GM
 | [.one a0],k =>
  lenP a0 fun r0 =>
  call Qfl [.one r0,.one (I 1),.one (I 4)] fun o1 =>
  iteP (atP o1 0)
   (call Qhd [.one a0,.fn 282 []] fun o2 =>
   unP .not (atP o2 0) fun r3 =>
   rt [.sc] [r3] k)
   (rt [.sc] [(.bool false)] k)
 | _,_=>False
abbrev Qhe_e:Ent:=⟨[225],Qhe⟩
theorem Qhe_w:EntOK Tryz.prog TT Qhe_e:=okF_ tabok (L:=[Qfl_e,Qhd_e]) ⟨Qfl_w,Qhd_w,trivial⟩ (keep:=[]) (l:=[]) Tryz.func225 trivial fun av k h=>by
 unfold Qhe at h;split at h
 ·exact km h
 ·exact h.elim
def Qhf:GM
 | [.agg u0],k=>un 4 (fun a0 a1 a2 a3 =>
  call Qha [.one a0] fun o0 =>
  unP .not (atP o0 0) fun r1 =>
  iteP r1
   (rt [.sc] [(.bool false)] k)
   (binP .eql a1 (I 1) fun r2 =>
   iteP r2
    (call Qfl [.one a2,.one (I 0),.one (I 999999)] fun o3 =>
    iteP (atP o3 0)
     (lenP a3 fun r4 =>
     binP .eql r4 (I 0) fun r5 =>
     rt [.sc] [r5] k)
     (rt [.sc] [(.bool false)] k))
    (binP .eql a1 (I 2) fun r6 =>
    iteP r6
     (call Qfm [.one a2] fun o7 =>
     iteP (atP o7 0)
      (lenP a3 fun r8 =>
      binP .eql r8 (I 0) fun r9 =>
      rt [.sc] [r9] k)
      (rt [.sc] [(.bool false)] k))
     (binP .eql a1 (I 3) fun r10 =>
     iteP r10
      (call Qfm [.one a2] fun o11 =>
      iteP (atP o11 0)
       (call Qhe [.one a3] fun o12 =>
       rt [.sc] [(atP o12 0)] k)
       (rt [.sc] [(.bool false)] k))
      (rt [.sc] [(.bool false)] k))))) u0
 | _,_=>False
abbrev Qhf_e:Ent:=⟨[365],Qhf⟩
theorem Qhf_w:EntOK Tryz.prog TT Qhf_e:=okF_ tabok (L:=[Qha_e,Qfl_e,Qfm_e,Qhe_e]) ⟨Qha_w,Qfl_w,Qfm_w,Qhe_w,trivial⟩ (keep:=[]) (l:=[]) Tryz.func365 trivial fun av k h=>by
 unfold Qhf at h;split at h
 ·apply un_all h;clear h;intro a0 a1 a2 a3 h;exact km h
 ·exact h.elim
def Qhh:GM
 | [.one a0,.one a1],k =>
  call Qju [.one a0,.one a1] fun o0 =>
  rt [.sc] [(atP o0 0)] k
 | _,_=>False
abbrev Qhh_e:Ent:=⟨[405],Qhh⟩
theorem Qhh_w:EntOK Tryz.prog TT Qhh_e:=ok_ tabok (L:=[Qju_e]) ⟨Qju_w,trivial⟩ (keep:=[]) (l:=[]) Tryz.func405 trivial fun av k h=>by
 unfold Qhh at h;split at h
 ·exact km h
 ·exact h.elim
def Qhi:GM
 | [.one a0,.one a1],k =>
  call Qhh [.one a0,.one a1] fun o0 =>
  rt [.sc] [(atP o0 0)] k
 | _,_=>False
abbrev Qhi_e:Ent:=⟨[366],Qhi⟩
theorem Qhi_w:EntOK Tryz.prog TT Qhi_e:=okF_ tabok (L:=[Qhh_e]) ⟨Qhh_w,trivial⟩ (keep:=[]) (l:=[]) Tryz.func366 trivial fun av k h=>by
 unfold Qhi at h;split at h
 ·exact km h
 ·exact h.elim
def Qhj_r0 (v:List PV) (K:List PV→Prop) (x0k:PV→PV→PV→PV→Prop) (x1k:PV→PV→PV→PV→Prop) (x2k:PV→PV→PV→PV→PV→Prop):Prop :=
 un 5 (fun v0 v1 v2 v3 v4 =>
  binP .lss v4 v3 fun r0 =>
  iteP r0
   (elemP 4 v2 v4 fun c1 =>
   call Qhf [.agg [(atP c1 0),(atP c1 1),(atP c1 2),(atP c1 3)]] fun o2 =>
   unP .not (atP o2 0) fun r3 =>
   iteP r3
    (x0k (atP c1 0) (atP c1 1) (atP c1 2) (atP c1 3))
    (binP .gtr v4 (I 0) fun r4 =>
    iteP r4
     (binP .sub v4 (I 1) fun r5 =>
     elemP 4 v0 r5 fun c6 =>
     call Qhi [.one (atP c1 0),.one (atP c6 0)] fun o7 =>
     binP .leq (atP o7 0) (I 0) fun r8 =>
     iteP r8
      (x1k (atP c1 0) (atP c1 1) (atP c1 2) (atP c1 3))
      (binP .add v4 (I 1) fun r9 =>
      K [v0,v1,v2,v3,r9]))
     (binP .add v4 (I 1) fun r10 =>
     K [v0,v1,v2,v3,r10])))
   (x2k v0 v1 v2 v3 v4)) v
def Qhj:GM
 | [.one a0],k =>
  lenP a0 fun r0 =>
  lp (fun L w=>Qhj_r0 w L
   (fun q11 q12 q13 q14=>rt [.sc] [(.bool false)] k)
   (fun q15 q16 q17 q18=>rt [.sc] [(.bool false)] k)
   (fun q19 q20 q21 q22 q23=>lenP q19 fun r24 =>
    binP .leq r24 (I 12) fun r25 =>
    rt [.sc] [r25] k)) [a0,(.bool false),a0,r0,(I 0)]
 | _,_=>False
abbrev Qhj_e:Ent:=⟨[319],Qhj⟩
def Qhj_l:List LE:=[⟨none,0,⟨[(0,.one zB),(2,.one zB),(5,.one zB),(6,.one zB),(7,.one zB)],[],[],0,35,[]⟩,fun K k v=>Qhj_r0 v K (fun x0 x1 x2 x3=>k .ret ⟨[(2,.one (.kb false))],[(0,[.pv x0,.pv x1,.pv x2,.pv x3]),(0,[.pv (.str ⟨#[]⟩),.pv (I 0),.pv (I 0),.nil 9 1])],[],2,35,[]⟩) (fun x0 x1 x2 x3=>k .ret ⟨[(2,.one (.kb false))],[(0,[.pv x0,.pv x1,.pv x2,.pv x3]),(0,[.pv (.str ⟨#[]⟩),.pv (I 0),.pv (I 0),.nil 9 1])],[],3,35,[]⟩) (fun x0 x1 x2 x3 x4=>k (.exit 0) ⟨[(0,.one (.pv x0)),(2,.one (.pv x1)),(5,.one (.pv x2)),(6,.one (.pv x3)),(7,.one (.pv x4))],[],[],0,35,[]⟩)⟩]
theorem Qhj_s:LEsOK [Qhf_e,Qhi_e] TT.nofl (kk [0,2,5,6,7,16,17,18,19,20,21,22,23,24,25,26,27,28,29]) Qhj_l Tryz.f319 Qhj_l:=⟨fun v K k h=>by
 apply un_all h;exact fun v0 v1 v2 v3 v4 h=>km h
 ,trivial⟩
theorem Qhj_w:EntOK Tryz.prog TT Qhj_e:=okF_ tabok (L:=[Qhf_e,Qhi_e]) ⟨Qhf_w,Qhi_w,trivial⟩ (keep:=(kk [0,2,5,6,7,16,17,18,19,20,21,22,23,24,25,26,27,28,29])) (l:=Qhj_l) Tryz.func319 Qhj_s fun av k h=>by
 unfold Qhj at h;split at h
 ·exact km h
 ·exact h.elim
def Qhk_r0 (v:List PV) (K:List PV→Prop) (x0k:PV→PV→PV→PV→PV→Prop):Prop :=
 un 5 (fun v0 v1 v2 v3 v4 =>
  binP .lss v2 v1 fun r0 =>
  iteP r0
   (elemP 1 v0 v2 fun c1 =>
   convP .i64 (atP c1 0) fun r2 =>
   (1=1)∧(1≤16777216)∧(1=1)∧(0=0)∧(1=1)∧(flatCond [.pv (I 0)] [.pv r2])∧catP 1 v4 (.list 1 [[r2]]) fun r3 =>
   binP .add v2 (I 1) fun r4 =>
   K [v0,v1,r4,v3,r3])
   (x0k v0 v1 v2 v3 v4)) v
def Qhk:GM
 | [.one a0],k =>
  lenP a0 fun r0 =>
  (1=1)∧(1≤16777216)∧(1=1)∧(0=0)∧(1=1)∧(flatCond [.pv (I 0)] [.pv r0])∧lenP a0 fun r1 =>
  lp (fun L w=>Qhk_r0 w L
   (fun q5 q6 q7 q8 q9=>rt [.own true 3 1] [q9] k)) [a0,r1,(I 0),(.list 1 []),(.list 1 [[r0]])]
 | _,_=>False
abbrev Qhk_e:Ent:=⟨[307],Qhk⟩
def Qhk_l:List LE:=[⟨none,0,⟨[(2,.one (.own 1)),(3,.one (.own 0)),(9,.one zB),(10,.one zB),(11,.one zB)],[],[(1,⟨.deep,3,1,(.bool false)⟩),(0,⟨.deep,3,1,(.bool false)⟩)],2,22,[]⟩,fun K k v=>Qhk_r0 v K (fun x0 x1 x2 x3 x4=>k (.exit 0) ⟨[(2,.one (.own 1)),(3,.one (.own 0)),(9,.one (.pv x0)),(10,.one (.pv x1)),(11,.one (.pv x2))],[],[(1,⟨.deep,3,1,x3⟩),(0,⟨.deep,3,1,x4⟩)],2,22,[]⟩)⟩]
theorem Qhk_s:LEsOK [] TT.nofl (kk [2,3,9,10,11]) Qhk_l Tryz.f307 Qhk_l:=⟨fun v K k h=>by
 apply un_all h;exact fun v0 v1 v2 v3 v4 h=>km h
 ,trivial⟩
theorem Qhk_w:EntOK Tryz.prog TT Qhk_e:=okF_ tabok (L:=[]) trivial (keep:=(kk [2,3,9,10,11])) (l:=Qhk_l) Tryz.func307 Qhk_s fun av k h=>by
 unfold Qhk at h;split at h
 ·exact km h
 ·exact h.elim
def Qhl:GM
 | [.one a0],k =>
  bytesP a0 fun r0 =>
  call Qhk [.one r0] fun o1 =>
  rt [.own true 3 1] [(atP o1 0)] k
 | _,_=>False
abbrev Qhl_e:Ent:=⟨[251],Qhl⟩
theorem Qhl_w:EntOK Tryz.prog TT Qhl_e:=okF_ tabok (L:=[Qhk_e]) ⟨Qhk_w,trivial⟩ (keep:=[]) (l:=[]) Tryz.func251 trivial fun av k h=>by
 unfold Qhl at h;split at h
 ·exact km h
 ·exact h.elim
def Qhm_r0 (v:List PV) (K:List PV→Prop) (x0k:PV→PV→PV→PV→PV→Prop):Prop :=
 un 5 (fun v0 v1 v2 v3 v4 =>
  binP .lss v2 v1 fun r0 =>
  iteP r0
   (elemP 1 v0 v2 fun c1 =>
   call Qhl [.one (atP c1 0)] fun o2 =>
   catP 1 v4 (atP o2 0) fun r3 =>
   binP .add v2 (I 1) fun r4 =>
   K [v0,v1,r4,v3,r3])
   (x0k v0 v1 v2 v3 v4)) v
def Qhm:GM
 | [.agg u0],k=>un 4 (fun a0 a1 a2 a3 =>
  call Qhl [.one a0] fun o0 =>
  lenP a3 fun r1 =>
  (3=3)∧(3≤16777216)∧(1=1)∧(0=0)∧(1=1)∧(flatCond [.pv (I 0)] [.pv a1])∧(1=1)∧(1=1)∧(flatCond [.pv (I 0)] [.pv a2])∧(2=2)∧(1=1)∧(flatCond [.pv (I 0)] [.pv r1])∧catP 1 (atP o0 0) (.list 1 [[a1],[a2],[r1]]) fun r2 =>
  lenP a3 fun r3 =>
  lp (fun L w=>Qhm_r0 w L
   (fun q5 q6 q7 q8 q9=>rt [.own true 3 1] [q9] k)) [a3,r3,(I 0),(.list 1 []),r2]) u0
 | _,_=>False
abbrev Qhm_e:Ent:=⟨[423],Qhm⟩
def Qhm_l:List LE:=[⟨none,0,⟨[(2,.one (.own 4)),(3,.one (.own 3)),(19,.one zB),(20,.one zB),(21,.one zB)],[],[(4,⟨.deep,3,1,(.bool false)⟩),(3,⟨.deep,3,1,(.bool false)⟩)],5,31,[]⟩,fun K k v=>Qhm_r0 v K (fun x0 x1 x2 x3 x4=>k (.exit 0) ⟨[(2,.one (.own 4)),(3,.one (.own 3)),(19,.one (.pv x0)),(20,.one (.pv x1)),(21,.one (.pv x2))],[],[(4,⟨.deep,3,1,x3⟩),(3,⟨.deep,3,1,x4⟩)],5,31,[]⟩)⟩]
theorem Qhm_s:LEsOK [Qhl_e] TT.nofl (kk [2,3,19,20,21]) Qhm_l Tryz.f423 Qhm_l:=⟨fun v K k h=>by
 apply un_all h;exact fun v0 v1 v2 v3 v4 h=>km h
 ,trivial⟩
theorem Qhm_w:EntOK Tryz.prog TT Qhm_e:=okF_ tabok (L:=[Qhl_e]) ⟨Qhl_w,trivial⟩ (keep:=(kk [2,3,19,20,21])) (l:=Qhm_l) Tryz.func423 Qhm_s fun av k h=>by
 unfold Qhm at h;split at h
 ·apply un_all h;clear h;intro a0 a1 a2 a3 h;exact km h
 ·exact h.elim
def Qhn:GM
 | [.agg u0],k=>un 4 (fun a0 a1 a2 a3 =>
  (1=1)∧(1≤16777216)∧(1=1)∧(0=0)∧(1=1)∧(flatCond [.pv (I 0)] [.pv (I 227)])∧call Qhm [.agg [a0,a1,a2,a3]] fun o0 =>
  catP 1 (.list 1 [[(I 227)]]) (atP o0 0) fun r1 =>
  call Qfx [.one r1] fun o2 =>
  rt [.sc] [(atP o2 0)] k) u0
 | _,_=>False
abbrev Qhn_e:Ent:=⟨[393],Qhn⟩
theorem Qhn_w:EntOK Tryz.prog TT Qhn_e:=okF_ tabok (L:=[Qhm_e,Qfx_e]) ⟨Qhm_w,Qfx_w,trivial⟩ (keep:=[]) (l:=[]) Tryz.func393 trivial fun av k h=>by
 unfold Qhn at h;split at h
 ·apply un_all h;clear h;intro a0 a1 a2 a3 h;exact km h
 ·exact h.elim
def Qho_r0 (v:List PV) (K:List PV→Prop) (x0k:PV→PV→PV→PV→PV→Prop):Prop :=
 un 5 (fun v0 v1 v2 v3 v4 =>
  binP .lss v2 v1 fun r0 =>
  iteP r0
   (elemP 4 v0 v2 fun c1 =>
   call Qhn [.agg [(atP c1 0),(atP c1 1),(atP c1 2),(atP c1 3)]] fun o2 =>
   (1=1)∧(1≤16777216)∧(1=1)∧(0=0)∧(1=1)∧(flatCond [.pv (I 0)] [.pv (atP o2 0)])∧catP 1 v4 (.list 1 [[(atP o2 0)]]) fun r3 =>
   binP .add v2 (I 1) fun r4 =>
   K [v0,v1,r4,v3,r3])
   (x0k v0 v1 v2 v3 v4)) v
def Qho:GM
 | [.one a0],k =>
  (0=0)∧(0≤16777216)∧(1=1)∧lenP a0 fun r0 =>
  lp (fun L w=>Qho_r0 w L
   (fun q5 q6 q7 q8 q9=>rt [.own true 3 1] [q9] k)) [a0,r0,(I 0),(.list 1 []),(.list 1 [])]
 | _,_=>False
abbrev Qho_e:Ent:=⟨[360],Qho⟩
def Qho_l:List LE:=[⟨none,0,⟨[(2,.one (.own 1)),(3,.one (.own 0)),(7,.one zB),(8,.one zB),(9,.one zB)],[],[(1,⟨.deep,3,1,(.bool false)⟩),(0,⟨.deep,3,1,(.bool false)⟩)],2,20,[]⟩,fun K k v=>Qho_r0 v K (fun x0 x1 x2 x3 x4=>k (.exit 0) ⟨[(2,.one (.own 1)),(3,.one (.own 0)),(7,.one (.pv x0)),(8,.one (.pv x1)),(9,.one (.pv x2))],[],[(1,⟨.deep,3,1,x3⟩),(0,⟨.deep,3,1,x4⟩)],2,20,[]⟩)⟩]
theorem Qho_s:LEsOK [Qhn_e] TT.nofl (kk [2,3,7,8,9]) Qho_l Tryz.f360 Qho_l:=⟨fun v K k h=>by
 apply un_all h;exact fun v0 v1 v2 v3 v4 h=>km h
 ,trivial⟩
theorem Qho_w:EntOK Tryz.prog TT Qho_e:=okF_ tabok (L:=[Qhn_e]) ⟨Qhn_w,trivial⟩ (keep:=(kk [2,3,7,8,9])) (l:=Qho_l) Tryz.func360 Qho_s fun av k h=>by
 unfold Qho at h;split at h
 ·exact km h
 ·exact h.elim
def Qhp:GM
 | [.one a0],k =>
  call Qfx [.one a0] fun o0 =>
  rt [.sc] [(atP o0 0)] k
 | _,_=>False
abbrev Qhp_e:Ent:=⟨[406],Qhp⟩
theorem Qhp_w:EntOK Tryz.prog TT Qhp_e:=okF_ tabok (L:=[Qfx_e]) ⟨Qfx_w,trivial⟩ (keep:=[]) (l:=[]) Tryz.func406 trivial fun av k h=>by
 unfold Qhp at h;split at h
 ·exact km h
 ·exact h.elim
def Qhq:GM
 | [.one a0,.one a1],k =>
  (3=3)∧(3≤16777216)∧(1=1)∧(0=0)∧(1=1)∧(flatCond [.pv (I 0)] [.pv (I 229)])∧(1=1)∧(1=1)∧(flatCond [.pv (I 0)] [.pv a0])∧(2=2)∧(1=1)∧(flatCond [.pv (I 0)] [.pv a1])∧call Qhp [.one (.list 1 [[(I 229)],[a0],[a1]])] fun o0 =>
  rt [.sc] [(atP o0 0)] k
 | _,_=>False
abbrev Qhq_e:Ent:=⟨[422],Qhq⟩
theorem Qhq_w:EntOK Tryz.prog TT Qhq_e:=okF_ tabok (L:=[Qhp_e]) ⟨Qhp_w,trivial⟩ (keep:=[]) (l:=[]) Tryz.func422 trivial fun av k h=>by
 unfold Qhq at h;split at h
 ·exact km h
 ·exact h.elim
def Qhr_r0 (v:List PV) (K:List PV→Prop) (x0k:PV→PV→PV→PV→Prop):Prop :=
 un 4 (fun v0 v1 v2 v3 =>
  lenP v0 fun r0 =>
  binP .lss v1 r0 fun r1 =>
  iteP r1
   (binP .add v1 (I 1) fun r2 =>
   lenP v0 fun r3 =>
   binP .lss r2 r3 fun r4 =>
   iteP r4
    (elemP 1 v0 v1 fun c5 =>
    binP .add v1 (I 1) fun r6 =>
    elemP 1 v0 r6 fun c7 =>
    call Qhq [.one (atP c5 0),.one (atP c7 0)] fun o8 =>
    (1=1)∧(1≤16777216)∧(1=1)∧(0=0)∧(1=1)∧(flatCond [.pv (I 0)] [.pv (atP o8 0)])∧catP 1 v3 (.list 1 [[(atP o8 0)]]) fun r9 =>
    binP .add v1 (I 2) fun r10 =>
    K [v0,r10,v2,r9])
    (elemP 1 v0 v1 fun c11 =>
    (1=1)∧(1≤16777216)∧(1=1)∧(0=0)∧(1=1)∧(flatCond [.pv (I 0)] [.pv (atP c11 0)])∧catP 1 v3 (.list 1 [[(atP c11 0)]]) fun r12 =>
    binP .add v1 (I 2) fun r13 =>
    K [v0,r13,v2,r12]))
   (x0k v0 v1 v2 v3)) v
def Qhr:GM
 | [.one a0],k =>
  (0=0)∧(0≤16777216)∧(1=1)∧lp (fun L w=>Qhr_r0 w L
   (fun q14 q15 q16 q17=>rt [.own true 3 1] [q17] k)) [a0,(I 0),(.list 1 []),(.list 1 [])]
 | _,_=>False
abbrev Qhr_e:Ent:=⟨[401],Qhr⟩
def Qhr_l:List LE:=[⟨none,0,⟨[(0,.one zB),(2,.one (.own 1)),(3,.one (.own 0)),(4,.one zB)],[],[(1,⟨.deep,3,1,(.bool false)⟩),(0,⟨.deep,3,1,(.bool false)⟩)],2,38,[]⟩,fun K k v=>Qhr_r0 v K (fun x0 x1 x2 x3=>k (.exit 0) ⟨[(0,.one (.pv x0)),(2,.one (.own 1)),(3,.one (.own 0)),(4,.one (.pv x1))],[],[(1,⟨.deep,3,1,x2⟩),(0,⟨.deep,3,1,x3⟩)],2,38,[]⟩)⟩]
theorem Qhr_s:LEsOK [Qhq_e] TT.nofl (kk [0,2,3,4]) Qhr_l Tryz.f401 Qhr_l:=⟨fun v K k h=>by
 apply un_all h;exact fun v0 v1 v2 v3 h=>km h
 ,trivial⟩
theorem Qhr_w:EntOK Tryz.prog TT Qhr_e:=okF_ tabok (L:=[Qhq_e]) ⟨Qhq_w,trivial⟩ (keep:=(kk [0,2,3,4])) (l:=Qhr_l) Tryz.func401 Qhr_s fun av k h=>by
 unfold Qhr at h;split at h
 ·exact km h
 ·exact h.elim
def Qhs_r0 (v:List PV) (K:List PV→Prop) (x0k:PV→PV→Prop):Prop :=
 un 2 (fun v0 v1 =>
  lenP v0 fun r0 =>
  binP .gtr r0 (I 1) fun r1 =>
  iteP r1
   (call Qhr [.one v0] fun o2 =>
   K [(atP o2 0),v1])
   (x0k v0 v1)) v
def Qhs:GM
 | [.one a0],k =>
  lenP a0 fun r0 =>
  binP .eql r0 (I 0) fun r1 =>
  iteP r1
   ((1=1)∧(1≤16777216)∧(1=1)∧(0=0)∧(1=1)∧(flatCond [.pv (I 0)] [.pv (I 229)])∧call Qhp [.one (.list 1 [[(I 229)]])] fun o2 =>
   rt [.sc] [(atP o2 0)] k)
   (lp (fun L w=>Qhs_r0 w L
    (fun q3 q4=>elemP 1 q3 (I 0) fun c5 =>
     rt [.sc] [(atP c5 0)] k)) [a0,(I 0)])
 | _,_=>False
abbrev Qhs_e:Ent:=⟨[368],Qhs⟩
def Qhs_l:List LE:=[⟨none,0,⟨[(0,.one zB),(2,.one zB)],[],[],0,16,[]⟩,fun K k v=>Qhs_r0 v K (fun x0 x1=>k (.exit 0) ⟨[(0,.one (.pv x0)),(2,.one (.pv x1))],[],[],0,16,[]⟩)⟩]
theorem Qhs_s:LEsOK [Qhp_e,Qhr_e] TT.nofl (kk [0,2]) Qhs_l Tryz.f368 Qhs_l:=⟨fun v K k h=>by
 apply un_all h;exact fun v0 v1 h=>km h
 ,trivial⟩
theorem Qhs_w:EntOK Tryz.prog TT Qhs_e:=okF_ tabok (L:=[Qhp_e,Qhr_e]) ⟨Qhp_w,Qhr_w,trivial⟩ (keep:=(kk [0,2])) (l:=Qhs_l) Tryz.func368 Qhs_s fun av k h=>by
 unfold Qhs at h;split at h
 ·exact km h
 ·exact h.elim
def Qht:GM
 | [.one a0,.one a1],k =>
  (3=3)∧(3≤16777216)∧(1=1)∧(0=0)∧(1=1)∧(flatCond [.pv (I 0)] [.pv (I 231)])∧(1=1)∧(1=1)∧(flatCond [.pv (I 0)] [.pv a0])∧(2=2)∧(1=1)∧(flatCond [.pv (I 0)] [.pv a1])∧call Qhp [.one (.list 1 [[(I 231)],[a0],[a1]])] fun o0 =>
  rt [.sc] [(atP o0 0)] k
 | _,_=>False
abbrev Qht_e:Ent:=⟨[367],Qht⟩
theorem Qht_w:EntOK Tryz.prog TT Qht_e:=okF_ tabok (L:=[Qhp_e]) ⟨Qhp_w,trivial⟩ (keep:=[]) (l:=[]) Tryz.func367 trivial fun av k h=>by
 unfold Qht at h;split at h
 ·exact km h
 ·exact h.elim
def Qhu:GM
 | [.one a0],k =>
  lenP a0 fun r0 =>
  call Qho [.one a0] fun o1 =>
  call Qhs [.one (atP o1 0)] fun o2 =>
  call Qht [.one r0,.one (atP o2 0)] fun o3 =>
  rt [.sc] [(atP o3 0)] k
 | _,_=>False
abbrev Qhu_e:Ent:=⟨[320],Qhu⟩
theorem Qhu_w:EntOK Tryz.prog TT Qhu_e:=okF_ tabok (L:=[Qho_e,Qhs_e,Qht_e]) ⟨Qho_w,Qhs_w,Qht_w,trivial⟩ (keep:=[]) (l:=[]) Tryz.func320 trivial fun av k h=>by
 unfold Qhu at h;split at h
 ·exact km h
 ·exact h.elim
def Qhv:GM
 | [.one a0,.one a1],k =>
  call Qhj [.one a1] fun o0 =>
  iteP (atP o0 0)
   (call Qhu [.one a1] fun o1 =>
   binP .eql (atP o1 0) a0 fun r2 =>
   rt [.sc] [r2] k)
   (rt [.sc] [(.bool false)] k)
 | _,_=>False
abbrev Qhv_e:Ent:=⟨[268],Qhv⟩
theorem Qhv_w:EntOK Tryz.prog TT Qhv_e:=okF_ tabok (L:=[Qhj_e,Qhu_e]) ⟨Qhj_w,Qhu_w,trivial⟩ (keep:=[]) (l:=[]) Tryz.func268 trivial fun av k h=>by
 unfold Qhv at h;split at h
 ·exact km h
 ·exact h.elim
def Qhw:GM
 | [.agg u0],k=>un 2 (fun a0 a1 =>
  call Qgy [.one a0] fun o0 =>
  unP .not (atP o0 0) fun r1 =>
  iteP r1
   (rt [.sc] [(.bool false)] k)
   (call Qgz [.one a0] fun o2 =>
   lenP a1 fun r3 =>
   binP .eql (atP o2 5) r3 fun r4 =>
   iteP r4
    (call Qhv [.one (atP o2 6),.one a1] fun o5 =>
    rt [.sc] [(atP o5 0)] k)
    (rt [.sc] [(.bool false)] k))) u0
 | _,_=>False
abbrev Qhw_e:Ent:=⟨[210],Qhw⟩
theorem Qhw_w:EntOK Tryz.prog TT Qhw_e:=okF_ tabok (L:=[Qgy_e,Qgz_e,Qhv_e]) ⟨Qgy_w,Qgz_w,Qhv_w,trivial⟩ (keep:=[]) (l:=[]) Tryz.func210 trivial fun av k h=>by
 unfold Qhw at h;split at h
 ·apply un_all h;clear h;intro a0 a1 h;exact km h
 ·exact h.elim
def Qhx:GM
 | [.agg u0],k=>un 2 (fun a0 a1 =>
  call Qhw [.agg [a0,a1]] fun o0 =>
  unP .not (atP o0 0) fun r1 =>
  iteP r1
   (rt [.sc] [(I (-1))] k)
   (call Qgz [.one a0] fun o2 =>
   rt [.sc] [(atP o2 0)] k)) u0
 | _,_=>False
abbrev Qhx_e:Ent:=⟨[201],Qhx⟩
theorem Qhx_w:EntOK Tryz.prog TT Qhx_e:=okF_ tabok (L:=[Qhw_e,Qgz_e]) ⟨Qhw_w,Qgz_w,trivial⟩ (keep:=[]) (l:=[]) Tryz.func201 trivial fun av k h=>by
 unfold Qhx at h;split at h
 ·apply un_all h;clear h;intro a0 a1 h;exact km h
 ·exact h.elim
def Qhy:GM
 | [.agg u0,.ro (.cells u1)],k=>un 2 (fun a0 a1=>un 1 (fun a2 =>
  call Qhx [.agg [a0,a1]] fun o0 =>
  binP .eql (atP o0 0) a2 fun r1 =>
  rt [.sc] [r1] k) u1) u0
 | _,_=>False
abbrev Qhy_e:Ent:=⟨[262],Qhy⟩
theorem Qhy_w:EntOK Tryz.prog TT Qhy_e:=okF_ tabok (L:=[Qhx_e]) ⟨Qhx_w,trivial⟩ (keep:=[]) (l:=[]) Tryz.func262 trivial fun av k h=>by
 unfold Qhy at h;split at h
 ·apply un_all h;clear h;intro a0 a1 h;apply un_all h;clear h;intro a2 h;exact km h
 ·exact h.elim
def Qhz_r0 (v:List PV) (K:List PV→Prop) (x0k:PV→Prop) (x1k:PV→PV→PV→PV→PV→Prop):Prop :=
 un 5 (fun v0 v1 v2 v3 v4 =>
  binP .lss v4 v3 fun r0 =>
  iteP r0
   (elemP 2 v0 v4 fun c1 =>
   call Qhy [.agg [(atP c1 0),(atP c1 1)],.ro (.cells [v1])] fun o2 =>
   iteP (atP o2 0)
    (x0k v4)
    (binP .add v4 (I 1) fun r3 =>
    K [v0,v1,v2,v3,r3]))
   (x1k v0 v1 v2 v3 v4)) v
def Qhz:GM
 | [.one a0,.fn 262 [.cells u0]],k=>un 1 (fun a1 =>
  lenP a0 fun r0 =>
  lp (fun L w=>Qhz_r0 w L
   (fun q4=>rt [.sc] [q4] k)
   (fun q5 q6 q7 q8 q9=>rt [.sc] [(I (-1))] k)) [a0,a1,(I 0),r0,(I 0)]) u0
 | _,_=>False
abbrev Qhz_e:Ent:=⟨[248,262],Qhz⟩
def Qhz_l:List LE:=[⟨none,0,⟨[(0,.one zB),(1,.one (.fn 262 [.ro (.cells [(.bool false)])])),(4,.one zB),(7,.one zB),(8,.one zB)],[],[],0,19,[]⟩,fun K k v=>Qhz_r0 v K (fun x0=>k .ret ⟨[(4,.one (.pv x0))],[],[],1,19,[]⟩) (fun x0 x1 x2 x3 x4=>k (.exit 0) ⟨[(0,.one (.pv x0)),(1,.one (.fn 262 [.ro (.cells [x1])])),(4,.one (.pv x2)),(7,.one (.pv x3)),(8,.one (.pv x4))],[],[],0,19,[]⟩)⟩]
theorem Qhz_s:LEsOK [Qhy_e] TT (kk [0,1,4,7,8]) Qhz_l Tryz.f248 Qhz_l:=⟨fun v K k h=>by
 apply un_all h;exact fun v0 v1 v2 v3 v4 h=>km h
 ,trivial⟩
theorem Qhz_w:EntOK Tryz.prog TT Qhz_e:=ok_ tabok (L:=[Qhy_e]) ⟨Qhy_w,trivial⟩ (keep:=(kk [0,1,4,7,8])) (l:=Qhz_l) Tryz.func248 Qhz_s fun av k h=>by
 unfold Qhz at h;split at h
 ·apply un_all h;clear h;intro a1 h;exact km h
 ·exact h.elim
def Qia:GM
 | [.agg u0,.one a8],k=>un 8 (fun a0 a1 a2 a3 a4 a5 a6 a7 =>
  call Qhz [.one a2,.fn 262 [.cells [a8]]] fun o0 =>
  rt [.sc] [(atP o0 0)] k) u0
 | _,_=>False
abbrev Qia_e:Ent:=⟨[202],Qia⟩
theorem Qia_w:EntOK Tryz.prog TT Qia_e:=okF_ tabok (L:=[Qhz_e]) ⟨Qhz_w,trivial⟩ (keep:=[]) (l:=[]) Tryz.func202 trivial fun av k h=>by
 unfold Qia at h;split at h
 ·apply un_all h;clear h;intro a0 a1 a2 a3 a4 a5 a6 a7 h;exact km h
 ·exact h.elim
def Qib:GM
 | [.agg u0,.agg u1],k=>un 8 (fun a0 a1 a2 a3 a4 a5 a6 a7=>un 2 (fun a8 a9 =>
  call Qfk [.agg [a0,a1,a2,a3,a4,a5,a6,a7]] fun o0 =>
  call Qhx [.agg [a8,a9]] fun o1 =>
  binP .lss (atP o1 0) (I 0) fun r2 =>
  iteP r2
   (rt [.sc,.own true 195 1,.own true 93 2,.own true 197 3,.own true 136 2,.own true 90 1,.own true 259 51,.own true 221 23] [(atP o0 0),(atP o0 1),(atP o0 2),(atP o0 3),(atP o0 4),(atP o0 5),(atP o0 6),(atP o0 7)] k)
   (call Qia [.agg [(atP o0 0),(atP o0 1),(atP o0 2),(atP o0 3),(atP o0 4),(atP o0 5),(atP o0 6),(atP o0 7)],.one (atP o1 0)] fun o3 =>
   binP .geq (atP o3 0) (I 0) fun r4 =>
   iteP r4
    (call Qfa [.agg [a8,a9]] fun o5 =>
    boundP 2 (atP o0 2) (atP o3 0) fun n6 =>
    (flatCond [.nil 257 17,.nil 57 4] [.own 15,.own 16])∧setP (atP o0 2) n6 0 [(atP o5 0),(atP o5 1)] fun r7 =>
    rt [.sc,.own true 195 1,.own true 93 2,.own true 197 3,.own true 136 2,.own true 90 1,.own true 259 51,.own true 221 23] [(atP o0 0),(atP o0 1),r7,(atP o0 3),(atP o0 4),(atP o0 5),(atP o0 6),(atP o0 7)] k)
    (lenP (atP o0 2) fun r8 =>
    binP .lss r8 (I 8) fun r9 =>
    iteP r9
     (call Qfa [.agg [a8,a9]] fun o10 =>
     (1=1)∧(2≤16777216)∧(2=2)∧(0=0)∧(2=2)∧(flatCond [.nil 257 17,.nil 57 4] [.own 15,.own 16])∧catP 2 (atP o0 2) (.list 2 [[(atP o10 0),(atP o10 1)]]) fun r11 =>
     rt [.sc,.own true 195 1,.own true 93 2,.own true 197 3,.own true 136 2,.own true 90 1,.own true 259 51,.own true 221 23] [(atP o0 0),(atP o0 1),r11,(atP o0 3),(atP o0 4),(atP o0 5),(atP o0 6),(atP o0 7)] k)
     (rt [.sc,.own true 195 1,.own true 93 2,.own true 197 3,.own true 136 2,.own true 90 1,.own true 259 51,.own true 221 23] [(atP o0 0),(atP o0 1),(atP o0 2),(atP o0 3),(atP o0 4),(atP o0 5),(atP o0 6),(atP o0 7)] k)))) u1) u0
 | _,_=>False
abbrev Qib_e:Ent:=⟨[41],Qib⟩
theorem Qib_w:EntOK Tryz.prog TT Qib_e:=okF_ tabok (L:=[Qfk_e,Qhx_e,Qia_e,Qfa_e]) ⟨Qfk_w,Qhx_w,Qia_w,Qfa_w,trivial⟩ (keep:=[]) (l:=[]) Tryz.func41 trivial fun av k h=>by
 unfold Qib at h;split at h
 ·apply un_all h;clear h;intro a0 a1 a2 a3 a4 a5 a6 a7 h;apply un_all h;clear h;intro a8 a9 h;exact km h
 ·exact h.elim
def Qic_r0 (v:List PV) (K:List PV→Prop) (x0k:Prop) (x1k:PV→PV→PV→PV→Prop):Prop :=
 un 4 (fun v0 v1 v2 v3 =>
  lenP v0 fun r0 =>
  binP .lss v3 r0 fun r1 =>
  iteP r1
   (elemP 1 v0 v3 fun c2 =>
   elemP 1 v1 v3 fun c3 =>
   binP .neq (atP c2 0) (atP c3 0) fun r4 =>
   iteP r4
    (x0k)
    (binP .add v3 (I 1) fun r5 =>
    K [v0,v1,v2,r5]))
   (x1k v0 v1 v2 v3)) v
def Qic:GM
 | [.one a0,.one a1],k =>
  lenP a0 fun r0 =>
  lenP a1 fun r1 =>
  binP .neq r0 r1 fun r2 =>
  iteP r2
   (rt [.sc] [(.bool false)] k)
   (lp (fun L w=>Qic_r0 w L
    (rt [.sc] [(.bool false)] k)
    (fun q6 q7 q8 q9=>rt [.sc] [(.bool true)] k)) [a0,a1,(.bool false),(I 0)])
 | _,_=>False
abbrev Qic_e:Ent:=⟨[93],Qic⟩
def Qic_l:List LE:=[⟨none,0,⟨[(0,.one zB),(1,.one zB),(4,.one zB),(5,.one zB)],[],[],0,26,[]⟩,fun K k v=>Qic_r0 v K (k .ret ⟨[(4,.one (.kb false))],[],[],0,26,[]⟩) (fun x0 x1 x2 x3=>k (.exit 0) ⟨[(0,.one (.pv x0)),(1,.one (.pv x1)),(4,.one (.pv x2)),(5,.one (.pv x3))],[],[],0,26,[]⟩)⟩]
theorem Qic_s:LEsOK [] TT.nofl (kk [0,1,4,5]) Qic_l Tryz.f93 Qic_l:=⟨fun v K k h=>by
 apply un_all h;exact fun v0 v1 v2 v3 h=>km h
 ,trivial⟩
theorem Qic_w:EntOK Tryz.prog TT Qic_e:=okF_ tabok (L:=[]) trivial (keep:=(kk [0,1,4,5])) (l:=Qic_l) Tryz.func93 Qic_s fun av k h=>by
 unfold Qic at h;split at h
 ·exact km h
 ·exact h.elim
def Qid:GM
 | [.agg u0,.agg u1],k=>un 1 (fun a0=>un 1 (fun a1 =>
  call Qic [.one a0,.one a1] fun o0 =>
  unP .not (atP o0 0) fun r1 =>
  iteP r1
   (rt [.sc] [(.bool false)] k)
   (rt [.sc] [(.bool true)] k)) u1) u0
 | _,_=>False
abbrev Qid_e:Ent:=⟨[203],Qid⟩
theorem Qid_w:EntOK Tryz.prog TT Qid_e:=okF_ tabok (L:=[Qic_e]) ⟨Qic_w,trivial⟩ (keep:=[]) (l:=[]) Tryz.func203 trivial fun av k h=>by
 unfold Qid at h;split at h
 ·apply un_all h;clear h;intro a0 h;apply un_all h;clear h;intro a1 h;exact km h
 ·exact h.elim
def Qie_r0 (v:List PV) (K:List PV→Prop) (x0k:Prop) (x1k:PV→PV→PV→PV→Prop):Prop :=
 un 4 (fun v0 v1 v2 v3 =>
  lenP v0 fun r0 =>
  binP .lss v3 r0 fun r1 =>
  iteP r1
   (elemP 1 v0 v3 fun c2 =>
   elemP 1 v1 v3 fun c3 =>
   call Qid [.agg [(atP c2 0)],.agg [(atP c3 0)]] fun o4 =>
   unP .not (atP o4 0) fun r5 =>
   iteP r5
    (x0k)
    (binP .add v3 (I 1) fun r6 =>
    K [v0,v1,v2,r6]))
   (x1k v0 v1 v2 v3)) v
def Qie:GM
 | [.one a0,.one a1],k =>
  lenP a0 fun r0 =>
  lenP a1 fun r1 =>
  binP .neq r0 r1 fun r2 =>
  iteP r2
   (rt [.sc] [(.bool false)] k)
   (lp (fun L w=>Qie_r0 w L
    (rt [.sc] [(.bool false)] k)
    (fun q7 q8 q9 q10=>rt [.sc] [(.bool true)] k)) [a0,a1,(.bool false),(I 0)])
 | _,_=>False
abbrev Qie_e:Ent:=⟨[119],Qie⟩
def Qie_l:List LE:=[⟨none,0,⟨[(0,.one zB),(1,.one zB),(4,.one zB),(5,.one zB)],[],[],0,27,[]⟩,fun K k v=>Qie_r0 v K (k .ret ⟨[(4,.one (.kb false))],[],[],1,27,[]⟩) (fun x0 x1 x2 x3=>k (.exit 0) ⟨[(0,.one (.pv x0)),(1,.one (.pv x1)),(4,.one (.pv x2)),(5,.one (.pv x3))],[],[],0,27,[]⟩)⟩]
theorem Qie_s:LEsOK [Qid_e] TT.nofl (kk [0,1,4,5]) Qie_l Tryz.f119 Qie_l:=⟨fun v K k h=>by
 apply un_all h;exact fun v0 v1 v2 v3 h=>km h
 ,trivial⟩
theorem Qie_w:EntOK Tryz.prog TT Qie_e:=okF_ tabok (L:=[Qid_e]) ⟨Qid_w,trivial⟩ (keep:=(kk [0,1,4,5])) (l:=Qie_l) Tryz.func119 Qie_s fun av k h=>by
 unfold Qie at h;split at h
 ·exact km h
 ·exact h.elim
def Qif:GM
 | [.agg u0,.agg u1],k=>un 2 (fun a0 a1=>un 2 (fun a2 a3 =>
  call Qic [.one a0,.one a2] fun o0 =>
  unP .not (atP o0 0) fun r1 =>
  iteP r1
   (rt [.sc] [(.bool false)] k)
   (binP .neq a1 a3 fun r2 =>
   iteP r2
    (rt [.sc] [(.bool false)] k)
    (rt [.sc] [(.bool true)] k))) u1) u0
 | _,_=>False
abbrev Qif_e:Ent:=⟨[145],Qif⟩
theorem Qif_w:EntOK Tryz.prog TT Qif_e:=okF_ tabok (L:=[Qic_e]) ⟨Qic_w,trivial⟩ (keep:=[]) (l:=[]) Tryz.func145 trivial fun av k h=>by
 unfold Qif at h;split at h
 ·apply un_all h;clear h;intro a0 a1 h;apply un_all h;clear h;intro a2 a3 h;exact km h
 ·exact h.elim
def Qig:GM
 | [.agg u0,.agg u1],k=>un 16 (fun a0 a1 a2 a3 a4 a5 a6 a7 a8 a9 a10 a11 a12 a13 a14 a15=>un 16 (fun a16 a17 a18 a19 a20 a21 a22 a23 a24 a25 a26 a27 a28 a29 a30 a31 =>
  binP .neq a0 a16 fun r0 =>
  iteP r0
   (rt [.sc] [(.bool false)] k)
   (binP .neq a1 a17 fun r1 =>
   iteP r1
    (rt [.sc] [(.bool false)] k)
    (binP .neq a2 a18 fun r2 =>
    iteP r2
     (rt [.sc] [(.bool false)] k)
     (binP .neq a3 a19 fun r3 =>
     iteP r3
      (rt [.sc] [(.bool false)] k)
      (binP .neq a4 a20 fun r4 =>
      iteP r4
       (rt [.sc] [(.bool false)] k)
       (binP .neq a5 a21 fun r5 =>
       iteP r5
        (rt [.sc] [(.bool false)] k)
        (binP .neq a6 a22 fun r6 =>
        iteP r6
         (rt [.sc] [(.bool false)] k)
         (binP .neq a7 a23 fun r7 =>
         iteP r7
          (rt [.sc] [(.bool false)] k)
          (call Qif [.agg [a8,a9],.agg [a24,a25]] fun o8 =>
          unP .not (atP o8 0) fun r9 =>
          iteP r9
           (rt [.sc] [(.bool false)] k)
           (call Qif [.agg [a10,a11],.agg [a26,a27]] fun o10 =>
           unP .not (atP o10 0) fun r11 =>
           iteP r11
            (rt [.sc] [(.bool false)] k)
            (binP .neq a12 a28 fun r12 =>
            iteP r12
             (rt [.sc] [(.bool false)] k)
             (call Qif [.agg [a13,a14],.agg [a29,a30]] fun o13 =>
             unP .not (atP o13 0) fun r14 =>
             iteP r14
              (rt [.sc] [(.bool false)] k)
              (boolP .neq a15 a31 fun r15 =>
              iteP r15
               (rt [.sc] [(.bool false)] k)
               (rt [.sc] [(.bool true)] k)))))))))))))) u1) u0
 | _,_=>False
abbrev Qig_e:Ent:=⟨[60],Qig⟩
theorem Qig_w:EntOK Tryz.prog TT Qig_e:=okF_ tabok (L:=[Qif_e]) ⟨Qif_w,trivial⟩ (keep:=[]) (l:=[]) Tryz.func60 trivial fun av k h=>by
 unfold Qig at h;split at h
 ·apply un_all h;clear h;intro a0 a1 a2 a3 a4 a5 a6 a7 a8 a9 a10 a11 a12 a13 a14 a15 h;apply un_all h;clear h;intro a16 a17 a18 a19 a20 a21 a22 a23 a24 a25 a26 a27 a28 a29 a30 a31 h;exact km h
 ·exact h.elim
def Qih:GM
 | [.agg u0,.agg u1],k=>un 2 (fun a0 a1=>un 2 (fun a2 a3 =>
  binP .neq a0 a2 fun r0 =>
  iteP r0
   (rt [.sc] [(.bool false)] k)
   (binP .neq a1 a3 fun r1 =>
   iteP r1
    (rt [.sc] [(.bool false)] k)
    (rt [.sc] [(.bool true)] k))) u1) u0
 | _,_=>False
abbrev Qih_e:Ent:=⟨[317],Qih⟩
theorem Qih_w:EntOK Tryz.prog TT Qih_e:=okF_ tabok (L:=[]) trivial (keep:=[]) (l:=[]) Tryz.func317 trivial fun av k h=>by
 unfold Qih at h;split at h
 ·apply un_all h;clear h;intro a0 a1 h;apply un_all h;clear h;intro a2 a3 h;exact km h
 ·exact h.elim
def Qii_r0 (v:List PV) (K:List PV→Prop) (x0k:Prop) (x1k:PV→PV→PV→PV→Prop):Prop :=
 un 4 (fun v0 v1 v2 v3 =>
  lenP v0 fun r0 =>
  binP .lss v3 r0 fun r1 =>
  iteP r1
   (elemP 2 v0 v3 fun c2 =>
   elemP 2 v1 v3 fun c3 =>
   call Qih [.agg [(atP c2 0),(atP c2 1)],.agg [(atP c3 0),(atP c3 1)]] fun o4 =>
   unP .not (atP o4 0) fun r5 =>
   iteP r5
    (x0k)
    (binP .add v3 (I 1) fun r6 =>
    K [v0,v1,v2,r6]))
   (x1k v0 v1 v2 v3)) v
def Qii:GM
 | [.one a0,.one a1],k =>
  lenP a0 fun r0 =>
  lenP a1 fun r1 =>
  binP .neq r0 r1 fun r2 =>
  iteP r2
   (rt [.sc] [(.bool false)] k)
   (lp (fun L w=>Qii_r0 w L
    (rt [.sc] [(.bool false)] k)
    (fun q7 q8 q9 q10=>rt [.sc] [(.bool true)] k)) [a0,a1,(.bool false),(I 0)])
 | _,_=>False
abbrev Qii_e:Ent:=⟨[263],Qii⟩
def Qii_l:List LE:=[⟨none,0,⟨[(0,.one zB),(1,.one zB),(4,.one zB),(5,.one zB)],[],[],0,27,[]⟩,fun K k v=>Qii_r0 v K (k .ret ⟨[(4,.one (.kb false))],[],[],1,27,[]⟩) (fun x0 x1 x2 x3=>k (.exit 0) ⟨[(0,.one (.pv x0)),(1,.one (.pv x1)),(4,.one (.pv x2)),(5,.one (.pv x3))],[],[],0,27,[]⟩)⟩]
theorem Qii_s:LEsOK [Qih_e] TT.nofl (kk [0,1,4,5]) Qii_l Tryz.f263 Qii_l:=⟨fun v K k h=>by
 apply un_all h;exact fun v0 v1 v2 v3 h=>km h
 ,trivial⟩
theorem Qii_w:EntOK Tryz.prog TT Qii_e:=okF_ tabok (L:=[Qih_e]) ⟨Qih_w,trivial⟩ (keep:=(kk [0,1,4,5])) (l:=Qii_l) Tryz.func263 Qii_s fun av k h=>by
 unfold Qii at h;split at h
 ·exact km h
 ·exact h.elim
def Qij:GM
 | [.agg u0,.agg u1],k=>un 17 (fun a0 a1 a2 a3 a4 a5 a6 a7 a8 a9 a10 a11 a12 a13 a14 a15 a16=>un 17 (fun a17 a18 a19 a20 a21 a22 a23 a24 a25 a26 a27 a28 a29 a30 a31 a32 a33 =>
  call Qig [.agg [a0,a1,a2,a3,a4,a5,a6,a7,a8,a9,a10,a11,a12,a13,a14,a15],.agg [a17,a18,a19,a20,a21,a22,a23,a24,a25,a26,a27,a28,a29,a30,a31,a32]] fun o0 =>
  unP .not (atP o0 0) fun r1 =>
  iteP r1
   (rt [.sc] [(.bool false)] k)
   (call Qii [.one a16,.one a33] fun o2 =>
   unP .not (atP o2 0) fun r3 =>
   iteP r3
    (rt [.sc] [(.bool false)] k)
    (rt [.sc] [(.bool true)] k))) u1) u0
 | _,_=>False
abbrev Qij_e:Ent:=⟨[205],Qij⟩
theorem Qij_w:EntOK Tryz.prog TT Qij_e:=okF_ tabok (L:=[Qig_e,Qii_e]) ⟨Qig_w,Qii_w,trivial⟩ (keep:=[]) (l:=[]) Tryz.func205 trivial fun av k h=>by
 unfold Qij at h;split at h
 ·apply un_all h;clear h;intro a0 a1 a2 a3 a4 a5 a6 a7 a8 a9 a10 a11 a12 a13 a14 a15 a16 h;apply un_all h;clear h;intro a17 a18 a19 a20 a21 a22 a23 a24 a25 a26 a27 a28 a29 a30 a31 a32 a33 h;exact km h
 ·exact h.elim
def Qik_r0 (v:List PV) (K:List PV→Prop) (x0k:Prop) (x1k:PV→PV→PV→PV→Prop):Prop :=
 un 4 (fun v0 v1 v2 v3 =>
  lenP v0 fun r0 =>
  binP .lss v3 r0 fun r1 =>
  iteP r1
   (elemP 17 v0 v3 fun c2 =>
   elemP 17 v1 v3 fun c3 =>
   call Qij [.agg [(atP c2 0),(atP c2 1),(atP c2 2),(atP c2 3),(atP c2 4),(atP c2 5),(atP c2 6),(atP c2 7),(atP c2 8),(atP c2 9),(atP c2 10),(atP c2 11),(atP c2 12),(atP c2 13),(atP c2 14),(atP c2 15),(atP c2 16)],.agg [(atP c3 0),(atP c3 1),(atP c3 2),(atP c3 3),(atP c3 4),(atP c3 5),(atP c3 6),(atP c3 7),(atP c3 8),(atP c3 9),(atP c3 10),(atP c3 11),(atP c3 12),(atP c3 13),(atP c3 14),(atP c3 15),(atP c3 16)]] fun o4 =>
   unP .not (atP o4 0) fun r5 =>
   iteP r5
    (x0k)
    (binP .add v3 (I 1) fun r6 =>
    K [v0,v1,v2,r6]))
   (x1k v0 v1 v2 v3)) v
def Qik:GM
 | [.one a0,.one a1],k =>
  lenP a0 fun r0 =>
  lenP a1 fun r1 =>
  binP .neq r0 r1 fun r2 =>
  iteP r2
   (rt [.sc] [(.bool false)] k)
   (lp (fun L w=>Qik_r0 w L
    (rt [.sc] [(.bool false)] k)
    (fun q7 q8 q9 q10=>rt [.sc] [(.bool true)] k)) [a0,a1,(.bool false),(I 0)])
 | _,_=>False
abbrev Qik_e:Ent:=⟨[123],Qik⟩
def Qik_l:List LE:=[⟨none,0,⟨[(0,.one zB),(1,.one zB),(4,.one zB),(5,.one zB)],[],[],0,27,[]⟩,fun K k v=>Qik_r0 v K (k .ret ⟨[(4,.one (.kb false))],[],[],1,27,[]⟩) (fun x0 x1 x2 x3=>k (.exit 0) ⟨[(0,.one (.pv x0)),(1,.one (.pv x1)),(4,.one (.pv x2)),(5,.one (.pv x3))],[],[],0,27,[]⟩)⟩]
theorem Qik_s:LEsOK [Qij_e] TT.nofl (kk [0,1,4,5]) Qik_l Tryz.f123 Qik_l:=⟨fun v K k h=>by
 apply un_all h;exact fun v0 v1 v2 v3 h=>km h
 ,trivial⟩
theorem Qik_w:EntOK Tryz.prog TT Qik_e:=okF_ tabok (L:=[Qij_e]) ⟨Qij_w,trivial⟩ (keep:=(kk [0,1,4,5])) (l:=Qik_l) Tryz.func123 Qik_s fun av k h=>by
 unfold Qik at h;split at h
 ·exact km h
 ·exact h.elim
def Qil_r0 (v:List PV) (K:List PV→Prop) (x0k:Prop) (x1k:PV→PV→PV→PV→Prop):Prop :=
 un 4 (fun v0 v1 v2 v3 =>
  lenP v0 fun r0 =>
  binP .lss v3 r0 fun r1 =>
  iteP r1
   (elemP 1 v0 v3 fun c2 =>
   elemP 1 v1 v3 fun c3 =>
   binP .neq (atP c2 0) (atP c3 0) fun r4 =>
   iteP r4
    (x0k)
    (binP .add v3 (I 1) fun r5 =>
    K [v0,v1,v2,r5]))
   (x1k v0 v1 v2 v3)) v
def Qil:GM
 | [.one a0,.one a1],k =>
  lenP a0 fun r0 =>
  lenP a1 fun r1 =>
  binP .neq r0 r1 fun r2 =>
  iteP r2
   (rt [.sc] [(.bool false)] k)
   (lp (fun L w=>Qil_r0 w L
    (rt [.sc] [(.bool false)] k)
    (fun q6 q7 q8 q9=>rt [.sc] [(.bool true)] k)) [a0,a1,(.bool false),(I 0)])
 | _,_=>False
abbrev Qil_e:Ent:=⟨[22],Qil⟩
def Qil_l:List LE:=[⟨none,0,⟨[(0,.one zB),(1,.one zB),(4,.one zB),(5,.one zB)],[],[],0,26,[]⟩,fun K k v=>Qil_r0 v K (k .ret ⟨[(4,.one (.kb false))],[],[],0,26,[]⟩) (fun x0 x1 x2 x3=>k (.exit 0) ⟨[(0,.one (.pv x0)),(1,.one (.pv x1)),(4,.one (.pv x2)),(5,.one (.pv x3))],[],[],0,26,[]⟩)⟩]
theorem Qil_s:LEsOK [] TT.nofl (kk [0,1,4,5]) Qil_l Tryz.f22 Qil_l:=⟨fun v K k h=>by
 apply un_all h;exact fun v0 v1 v2 v3 h=>km h
 ,trivial⟩
theorem Qil_w:EntOK Tryz.prog TT Qil_e:=okF_ tabok (L:=[]) trivial (keep:=(kk [0,1,4,5])) (l:=Qil_l) Tryz.func22 Qil_s fun av k h=>by
 unfold Qil at h;split at h
 ·exact km h
 ·exact h.elim
def Qim:GM
 | [.agg u0,.agg u1],k=>un 4 (fun a0 a1 a2 a3=>un 4 (fun a4 a5 a6 a7 =>
  binP .neq a0 a4 fun r0 =>
  iteP r0
   (rt [.sc] [(.bool false)] k)
   (binP .neq a1 a5 fun r1 =>
   iteP r1
    (rt [.sc] [(.bool false)] k)
    (binP .neq a2 a6 fun r2 =>
    iteP r2
     (rt [.sc] [(.bool false)] k)
     (call Qil [.one a3,.one a7] fun o3 =>
     unP .not (atP o3 0) fun r4 =>
     iteP r4
      (rt [.sc] [(.bool false)] k)
      (rt [.sc] [(.bool true)] k))))) u1) u0
 | _,_=>False
abbrev Qim_e:Ent:=⟨[92],Qim⟩
theorem Qim_w:EntOK Tryz.prog TT Qim_e:=okF_ tabok (L:=[Qil_e]) ⟨Qil_w,trivial⟩ (keep:=[]) (l:=[]) Tryz.func92 trivial fun av k h=>by
 unfold Qim at h;split at h
 ·apply un_all h;clear h;intro a0 a1 a2 a3 h;apply un_all h;clear h;intro a4 a5 a6 a7 h;exact km h
 ·exact h.elim
def Qin_r0 (v:List PV) (K:List PV→Prop) (x0k:Prop) (x1k:PV→PV→PV→PV→Prop):Prop :=
 un 4 (fun v0 v1 v2 v3 =>
  lenP v0 fun r0 =>
  binP .lss v3 r0 fun r1 =>
  iteP r1
   (elemP 4 v0 v3 fun c2 =>
   elemP 4 v1 v3 fun c3 =>
   call Qim [.agg [(atP c2 0),(atP c2 1),(atP c2 2),(atP c2 3)],.agg [(atP c3 0),(atP c3 1),(atP c3 2),(atP c3 3)]] fun o4 =>
   unP .not (atP o4 0) fun r5 =>
   iteP r5
    (x0k)
    (binP .add v3 (I 1) fun r6 =>
    K [v0,v1,v2,r6]))
   (x1k v0 v1 v2 v3)) v
def Qin:GM
 | [.one a0,.one a1],k =>
  lenP a0 fun r0 =>
  lenP a1 fun r1 =>
  binP .neq r0 r1 fun r2 =>
  iteP r2
   (rt [.sc] [(.bool false)] k)
   (lp (fun L w=>Qin_r0 w L
    (rt [.sc] [(.bool false)] k)
    (fun q7 q8 q9 q10=>rt [.sc] [(.bool true)] k)) [a0,a1,(.bool false),(I 0)])
 | _,_=>False
abbrev Qin_e:Ent:=⟨[61],Qin⟩
def Qin_l:List LE:=[⟨none,0,⟨[(0,.one zB),(1,.one zB),(4,.one zB),(5,.one zB)],[],[],0,27,[]⟩,fun K k v=>Qin_r0 v K (k .ret ⟨[(4,.one (.kb false))],[],[],1,27,[]⟩) (fun x0 x1 x2 x3=>k (.exit 0) ⟨[(0,.one (.pv x0)),(1,.one (.pv x1)),(4,.one (.pv x2)),(5,.one (.pv x3))],[],[],0,27,[]⟩)⟩]
theorem Qin_s:LEsOK [Qim_e] TT.nofl (kk [0,1,4,5]) Qin_l Tryz.f61 Qin_l:=⟨fun v K k h=>by
 apply un_all h;exact fun v0 v1 v2 v3 h=>km h
 ,trivial⟩
theorem Qin_w:EntOK Tryz.prog TT Qin_e:=okF_ tabok (L:=[Qim_e]) ⟨Qim_w,trivial⟩ (keep:=(kk [0,1,4,5])) (l:=Qin_l) Tryz.func61 Qin_s fun av k h=>by
 unfold Qin at h;split at h
 ·exact km h
 ·exact h.elim
def Qio:GM
 | [.agg u0,.agg u1],k=>un 2 (fun a0 a1=>un 2 (fun a2 a3 =>
  call Qik [.one a0,.one a2] fun o0 =>
  unP .not (atP o0 0) fun r1 =>
  iteP r1
   (rt [.sc] [(.bool false)] k)
   (call Qin [.one a1,.one a3] fun o2 =>
   unP .not (atP o2 0) fun r3 =>
   iteP r3
    (rt [.sc] [(.bool false)] k)
    (rt [.sc] [(.bool true)] k))) u1) u0
 | _,_=>False
abbrev Qio_e:Ent:=⟨[43],Qio⟩
theorem Qio_w:EntOK Tryz.prog TT Qio_e:=okF_ tabok (L:=[Qik_e,Qin_e]) ⟨Qik_w,Qin_w,trivial⟩ (keep:=[]) (l:=[]) Tryz.func43 trivial fun av k h=>by
 unfold Qio at h;split at h
 ·apply un_all h;clear h;intro a0 a1 h;apply un_all h;clear h;intro a2 a3 h;exact km h
 ·exact h.elim
def Qip_r0 (v:List PV) (K:List PV→Prop) (x0k:Prop) (x1k:PV→PV→PV→PV→Prop):Prop :=
 un 4 (fun v0 v1 v2 v3 =>
  lenP v0 fun r0 =>
  binP .lss v3 r0 fun r1 =>
  iteP r1
   (elemP 2 v0 v3 fun c2 =>
   elemP 2 v1 v3 fun c3 =>
   call Qio [.agg [(atP c2 0),(atP c2 1)],.agg [(atP c3 0),(atP c3 1)]] fun o4 =>
   unP .not (atP o4 0) fun r5 =>
   iteP r5
    (x0k)
    (binP .add v3 (I 1) fun r6 =>
    K [v0,v1,v2,r6]))
   (x1k v0 v1 v2 v3)) v
def Qip:GM
 | [.one a0,.one a1],k =>
  lenP a0 fun r0 =>
  lenP a1 fun r1 =>
  binP .neq r0 r1 fun r2 =>
  iteP r2
   (rt [.sc] [(.bool false)] k)
   (lp (fun L w=>Qip_r0 w L
    (rt [.sc] [(.bool false)] k)
    (fun q7 q8 q9 q10=>rt [.sc] [(.bool true)] k)) [a0,a1,(.bool false),(I 0)])
 | _,_=>False
abbrev Qip_e:Ent:=⟨[120],Qip⟩
def Qip_l:List LE:=[⟨none,0,⟨[(0,.one zB),(1,.one zB),(4,.one zB),(5,.one zB)],[],[],0,27,[]⟩,fun K k v=>Qip_r0 v K (k .ret ⟨[(4,.one (.kb false))],[],[],1,27,[]⟩) (fun x0 x1 x2 x3=>k (.exit 0) ⟨[(0,.one (.pv x0)),(1,.one (.pv x1)),(4,.one (.pv x2)),(5,.one (.pv x3))],[],[],0,27,[]⟩)⟩]
theorem Qip_s:LEsOK [Qio_e] TT.nofl (kk [0,1,4,5]) Qip_l Tryz.f120 Qip_l:=⟨fun v K k h=>by
 apply un_all h;exact fun v0 v1 v2 v3 h=>km h
 ,trivial⟩
theorem Qip_w:EntOK Tryz.prog TT Qip_e:=okF_ tabok (L:=[Qio_e]) ⟨Qio_w,trivial⟩ (keep:=(kk [0,1,4,5])) (l:=Qip_l) Tryz.func120 Qip_s fun av k h=>by
 unfold Qip at h;split at h
 ·exact km h
 ·exact h.elim
def Qiq:GM
 | [.agg u0,.agg u1],k=>un 3 (fun a0 a1 a2=>un 3 (fun a3 a4 a5 =>
  call Qio [.agg [a0,a1],.agg [a3,a4]] fun o0 =>
  unP .not (atP o0 0) fun r1 =>
  iteP r1
   (rt [.sc] [(.bool false)] k)
   (call Qic [.one a2,.one a5] fun o2 =>
   unP .not (atP o2 0) fun r3 =>
   iteP r3
    (rt [.sc] [(.bool false)] k)
    (rt [.sc] [(.bool true)] k))) u1) u0
 | _,_=>False
abbrev Qiq_e:Ent:=⟨[204],Qiq⟩
theorem Qiq_w:EntOK Tryz.prog TT Qiq_e:=okF_ tabok (L:=[Qio_e,Qic_e]) ⟨Qio_w,Qic_w,trivial⟩ (keep:=[]) (l:=[]) Tryz.func204 trivial fun av k h=>by
 unfold Qiq at h;split at h
 ·apply un_all h;clear h;intro a0 a1 a2 h;apply un_all h;clear h;intro a3 a4 a5 h;exact km h
 ·exact h.elim
def Qir_r0 (v:List PV) (K:List PV→Prop) (x0k:Prop) (x1k:PV→PV→PV→PV→Prop):Prop :=
 un 4 (fun v0 v1 v2 v3 =>
  lenP v0 fun r0 =>
  binP .lss v3 r0 fun r1 =>
  iteP r1
   (elemP 3 v0 v3 fun c2 =>
   elemP 3 v1 v3 fun c3 =>
   call Qiq [.agg [(atP c2 0),(atP c2 1),(atP c2 2)],.agg [(atP c3 0),(atP c3 1),(atP c3 2)]] fun o4 =>
   unP .not (atP o4 0) fun r5 =>
   iteP r5
    (x0k)
    (binP .add v3 (I 1) fun r6 =>
    K [v0,v1,v2,r6]))
   (x1k v0 v1 v2 v3)) v
def Qir:GM
 | [.one a0,.one a1],k =>
  lenP a0 fun r0 =>
  lenP a1 fun r1 =>
  binP .neq r0 r1 fun r2 =>
  iteP r2
   (rt [.sc] [(.bool false)] k)
   (lp (fun L w=>Qir_r0 w L
    (rt [.sc] [(.bool false)] k)
    (fun q7 q8 q9 q10=>rt [.sc] [(.bool true)] k)) [a0,a1,(.bool false),(I 0)])
 | _,_=>False
abbrev Qir_e:Ent:=⟨[121],Qir⟩
def Qir_l:List LE:=[⟨none,0,⟨[(0,.one zB),(1,.one zB),(4,.one zB),(5,.one zB)],[],[],0,27,[]⟩,fun K k v=>Qir_r0 v K (k .ret ⟨[(4,.one (.kb false))],[],[],1,27,[]⟩) (fun x0 x1 x2 x3=>k (.exit 0) ⟨[(0,.one (.pv x0)),(1,.one (.pv x1)),(4,.one (.pv x2)),(5,.one (.pv x3))],[],[],0,27,[]⟩)⟩]
theorem Qir_s:LEsOK [Qiq_e] TT.nofl (kk [0,1,4,5]) Qir_l Tryz.f121 Qir_l:=⟨fun v K k h=>by
 apply un_all h;exact fun v0 v1 v2 v3 h=>km h
 ,trivial⟩
theorem Qir_w:EntOK Tryz.prog TT Qir_e:=okF_ tabok (L:=[Qiq_e]) ⟨Qiq_w,trivial⟩ (keep:=(kk [0,1,4,5])) (l:=Qir_l) Tryz.func121 Qir_s fun av k h=>by
 unfold Qir at h;split at h
 ·exact km h
 ·exact h.elim
def Qis:GM
 | [.agg u0,.agg u1],k=>un 2 (fun a0 a1=>un 2 (fun a2 a3 =>
  call Qip [.one a0,.one a2] fun o0 =>
  unP .not (atP o0 0) fun r1 =>
  iteP r1
   (rt [.sc] [(.bool false)] k)
   (binP .neq a1 a3 fun r2 =>
   iteP r2
    (rt [.sc] [(.bool false)] k)
    (rt [.sc] [(.bool true)] k))) u1) u0
 | _,_=>False
abbrev Qis_e:Ent:=⟨[74],Qis⟩
theorem Qis_w:EntOK Tryz.prog TT Qis_e:=okF_ tabok (L:=[Qip_e]) ⟨Qip_w,trivial⟩ (keep:=[]) (l:=[]) Tryz.func74 trivial fun av k h=>by
 unfold Qis at h;split at h
 ·apply un_all h;clear h;intro a0 a1 h;apply un_all h;clear h;intro a2 a3 h;exact km h
 ·exact h.elim
def Qit_r0 (v:List PV) (K:List PV→Prop) (x0k:Prop) (x1k:PV→PV→PV→PV→Prop):Prop :=
 un 4 (fun v0 v1 v2 v3 =>
  lenP v0 fun r0 =>
  binP .lss v3 r0 fun r1 =>
  iteP r1
   (elemP 2 v0 v3 fun c2 =>
   elemP 2 v1 v3 fun c3 =>
   call Qis [.agg [(atP c2 0),(atP c2 1)],.agg [(atP c3 0),(atP c3 1)]] fun o4 =>
   unP .not (atP o4 0) fun r5 =>
   iteP r5
    (x0k)
    (binP .add v3 (I 1) fun r6 =>
    K [v0,v1,v2,r6]))
   (x1k v0 v1 v2 v3)) v
def Qit:GM
 | [.one a0,.one a1],k =>
  lenP a0 fun r0 =>
  lenP a1 fun r1 =>
  binP .neq r0 r1 fun r2 =>
  iteP r2
   (rt [.sc] [(.bool false)] k)
   (lp (fun L w=>Qit_r0 w L
    (rt [.sc] [(.bool false)] k)
    (fun q7 q8 q9 q10=>rt [.sc] [(.bool true)] k)) [a0,a1,(.bool false),(I 0)])
 | _,_=>False
abbrev Qit_e:Ent:=⟨[21],Qit⟩
def Qit_l:List LE:=[⟨none,0,⟨[(0,.one zB),(1,.one zB),(4,.one zB),(5,.one zB)],[],[],0,27,[]⟩,fun K k v=>Qit_r0 v K (k .ret ⟨[(4,.one (.kb false))],[],[],1,27,[]⟩) (fun x0 x1 x2 x3=>k (.exit 0) ⟨[(0,.one (.pv x0)),(1,.one (.pv x1)),(4,.one (.pv x2)),(5,.one (.pv x3))],[],[],0,27,[]⟩)⟩]
theorem Qit_s:LEsOK [Qis_e] TT.nofl (kk [0,1,4,5]) Qit_l Tryz.f21 Qit_l:=⟨fun v K k h=>by
 apply un_all h;exact fun v0 v1 v2 v3 h=>km h
 ,trivial⟩
theorem Qit_w:EntOK Tryz.prog TT Qit_e:=okF_ tabok (L:=[Qis_e]) ⟨Qis_w,trivial⟩ (keep:=(kk [0,1,4,5])) (l:=Qit_l) Tryz.func21 Qit_s fun av k h=>by
 unfold Qit at h;split at h
 ·exact km h
 ·exact h.elim
def Qiu_r0 (v:List PV) (K:List PV→Prop) (x0k:Prop) (x1k:PV→PV→PV→PV→Prop):Prop :=
 un 4 (fun v0 v1 v2 v3 =>
  lenP v0 fun r0 =>
  binP .lss v3 r0 fun r1 =>
  iteP r1
   (elemP 1 v0 v3 fun c2 =>
   elemP 1 v1 v3 fun c3 =>
   call Qik [.one (atP c2 0),.one (atP c3 0)] fun o4 =>
   unP .not (atP o4 0) fun r5 =>
   iteP r5
    (x0k)
    (binP .add v3 (I 1) fun r6 =>
    K [v0,v1,v2,r6]))
   (x1k v0 v1 v2 v3)) v
def Qiu:GM
 | [.one a0,.one a1],k =>
  lenP a0 fun r0 =>
  lenP a1 fun r1 =>
  binP .neq r0 r1 fun r2 =>
  iteP r2
   (rt [.sc] [(.bool false)] k)
   (lp (fun L w=>Qiu_r0 w L
    (rt [.sc] [(.bool false)] k)
    (fun q7 q8 q9 q10=>rt [.sc] [(.bool true)] k)) [a0,a1,(.bool false),(I 0)])
 | _,_=>False
abbrev Qiu_e:Ent:=⟨[94],Qiu⟩
def Qiu_l:List LE:=[⟨none,0,⟨[(0,.one zB),(1,.one zB),(4,.one zB),(5,.one zB)],[],[],0,27,[]⟩,fun K k v=>Qiu_r0 v K (k .ret ⟨[(4,.one (.kb false))],[],[],1,27,[]⟩) (fun x0 x1 x2 x3=>k (.exit 0) ⟨[(0,.one (.pv x0)),(1,.one (.pv x1)),(4,.one (.pv x2)),(5,.one (.pv x3))],[],[],0,27,[]⟩)⟩]
theorem Qiu_s:LEsOK [Qik_e] TT.nofl (kk [0,1,4,5]) Qiu_l Tryz.f94 Qiu_l:=⟨fun v K k h=>by
 apply un_all h;exact fun v0 v1 v2 v3 h=>km h
 ,trivial⟩
theorem Qiu_w:EntOK Tryz.prog TT Qiu_e:=okF_ tabok (L:=[Qik_e]) ⟨Qik_w,trivial⟩ (keep:=(kk [0,1,4,5])) (l:=Qiu_l) Tryz.func94 Qiu_s fun av k h=>by
 unfold Qiu at h;split at h
 ·exact km h
 ·exact h.elim
def Qiv:GM
 | [.agg u0,.agg u1],k=>un 51 (fun a0 a1 a2 a3 a4 a5 a6 a7 a8 a9 a10 a11 a12 a13 a14 a15 a16 a17 a18 a19 a20 a21 a22 a23 a24 a25 a26 a27 a28 a29 a30 a31 a32 a33 a34 a35 a36 a37 a38 a39 a40 a41 a42 a43 a44 a45 a46 a47 a48 a49 a50=>un 51 (fun a51 a52 a53 a54 a55 a56 a57 a58 a59 a60 a61 a62 a63 a64 a65 a66 a67 a68 a69 a70 a71 a72 a73 a74 a75 a76 a77 a78 a79 a80 a81 a82 a83 a84 a85 a86 a87 a88 a89 a90 a91 a92 a93 a94 a95 a96 a97 a98 a99 a100 a101 =>
  call Qij [.agg [a0,a1,a2,a3,a4,a5,a6,a7,a8,a9,a10,a11,a12,a13,a14,a15,a16],.agg [a51,a52,a53,a54,a55,a56,a57,a58,a59,a60,a61,a62,a63,a64,a65,a66,a67]] fun o0 =>
  unP .not (atP o0 0) fun r1 =>
  iteP r1
   (rt [.sc] [(.bool false)] k)
   (call Qij [.agg [a17,a18,a19,a20,a21,a22,a23,a24,a25,a26,a27,a28,a29,a30,a31,a32,a33],.agg [a68,a69,a70,a71,a72,a73,a74,a75,a76,a77,a78,a79,a80,a81,a82,a83,a84]] fun o2 =>
   unP .not (atP o2 0) fun r3 =>
   iteP r3
    (rt [.sc] [(.bool false)] k)
    (call Qij [.agg [a34,a35,a36,a37,a38,a39,a40,a41,a42,a43,a44,a45,a46,a47,a48,a49,a50],.agg [a85,a86,a87,a88,a89,a90,a91,a92,a93,a94,a95,a96,a97,a98,a99,a100,a101]] fun o4 =>
    unP .not (atP o4 0) fun r5 =>
    iteP r5
     (rt [.sc] [(.bool false)] k)
     (rt [.sc] [(.bool true)] k)))) u1) u0
 | _,_=>False
abbrev Qiv_e:Ent:=⟨[181],Qiv⟩
theorem Qiv_w:EntOK Tryz.prog TT Qiv_e:=okF_ tabok (L:=[Qij_e]) ⟨Qij_w,trivial⟩ (keep:=[]) (l:=[]) Tryz.func181 trivial fun av k h=>by
 unfold Qiv at h;split at h
 ·apply un_all h;clear h;intro a0 a1 a2 a3 a4 a5 a6 a7 a8 a9 a10 a11 a12 a13 a14 a15 a16 a17 a18 a19 a20 a21 a22 a23 a24 a25 a26 a27 a28 a29 a30 a31 a32 a33 a34 a35 a36 a37 a38 a39 a40 a41 a42 a43 a44 a45 a46 a47 a48 a49 a50 h;apply un_all h;clear h;intro a51 a52 a53 a54 a55 a56 a57 a58 a59 a60 a61 a62 a63 a64 a65 a66 a67 a68 a69 a70 a71 a72 a73 a74 a75 a76 a77 a78 a79 a80 a81 a82 a83 a84 a85 a86 a87 a88 a89 a90 a91 a92 a93 a94 a95 a96 a97 a98 a99 a100 a101 h;exact km h
 ·exact h.elim
def Qiw_r0 (v:List PV) (K:List PV→Prop) (x0k:Prop) (x1k:PV→PV→PV→PV→Prop):Prop :=
 un 4 (fun v0 v1 v2 v3 =>
  lenP v0 fun r0 =>
  binP .lss v3 r0 fun r1 =>
  iteP r1
   (elemP 51 v0 v3 fun c2 =>
   elemP 51 v1 v3 fun c3 =>
   call Qiv [.agg [(atP c2 0),(atP c2 1),(atP c2 2),(atP c2 3),(atP c2 4),(atP c2 5),(atP c2 6),(atP c2 7),(atP c2 8),(atP c2 9),(atP c2 10),(atP c2 11),(atP c2 12),(atP c2 13),(atP c2 14),(atP c2 15),(atP c2 16),(atP c2 17),(atP c2 18),(atP c2 19),(atP c2 20),(atP c2 21),(atP c2 22),(atP c2 23),(atP c2 24),(atP c2 25),(atP c2 26),(atP c2 27),(atP c2 28),(atP c2 29),(atP c2 30),(atP c2 31),(atP c2 32),(atP c2 33),(atP c2 34),(atP c2 35),(atP c2 36),(atP c2 37),(atP c2 38),(atP c2 39),(atP c2 40),(atP c2 41),(atP c2 42),(atP c2 43),(atP c2 44),(atP c2 45),(atP c2 46),(atP c2 47),(atP c2 48),(atP c2 49),(atP c2 50)],.agg [(atP c3 0),(atP c3 1),(atP c3 2),(atP c3 3),(atP c3 4),(atP c3 5),(atP c3 6),(atP c3 7),(atP c3 8),(atP c3 9),(atP c3 10),(atP c3 11),(atP c3 12),(atP c3 13),(atP c3 14),(atP c3 15),(atP c3 16),(atP c3 17),(atP c3 18),(atP c3 19),(atP c3 20),(atP c3 21),(atP c3 22),(atP c3 23),(atP c3 24),(atP c3 25),(atP c3 26),(atP c3 27),(atP c3 28),(atP c3 29),(atP c3 30),(atP c3 31),(atP c3 32),(atP c3 33),(atP c3 34),(atP c3 35),(atP c3 36),(atP c3 37),(atP c3 38),(atP c3 39),(atP c3 40),(atP c3 41),(atP c3 42),(atP c3 43),(atP c3 44),(atP c3 45),(atP c3 46),(atP c3 47),(atP c3 48),(atP c3 49),(atP c3 50)]] fun o4 =>
   unP .not (atP o4 0) fun r5 =>
   iteP r5
    (x0k)
    (binP .add v3 (I 1) fun r6 =>
    K [v0,v1,v2,r6]))
   (x1k v0 v1 v2 v3)) v
def Qiw:GM
 | [.one a0,.one a1],k =>
  lenP a0 fun r0 =>
  lenP a1 fun r1 =>
  binP .neq r0 r1 fun r2 =>
  iteP r2
   (rt [.sc] [(.bool false)] k)
   (lp (fun L w=>Qiw_r0 w L
    (rt [.sc] [(.bool false)] k)
    (fun q7 q8 q9 q10=>rt [.sc] [(.bool true)] k)) [a0,a1,(.bool false),(I 0)])
 | _,_=>False
abbrev Qiw_e:Ent:=⟨[95],Qiw⟩
def Qiw_l:List LE:=[⟨none,0,⟨[(0,.one zB),(1,.one zB),(4,.one zB),(5,.one zB)],[],[],0,27,[]⟩,fun K k v=>Qiw_r0 v K (k .ret ⟨[(4,.one (.kb false))],[],[],1,27,[]⟩) (fun x0 x1 x2 x3=>k (.exit 0) ⟨[(0,.one (.pv x0)),(1,.one (.pv x1)),(4,.one (.pv x2)),(5,.one (.pv x3))],[],[],0,27,[]⟩)⟩]
theorem Qiw_s:LEsOK [Qiv_e] TT.nofl (kk [0,1,4,5]) Qiw_l Tryz.f95 Qiw_l:=⟨fun v K k h=>by
 apply un_all h;exact fun v0 v1 v2 v3 h=>km h
 ,trivial⟩
theorem Qiw_w:EntOK Tryz.prog TT Qiw_e:=okF_ tabok (L:=[Qiv_e]) ⟨Qiv_w,trivial⟩ (keep:=(kk [0,1,4,5])) (l:=Qiw_l) Tryz.func95 Qiw_s fun av k h=>by
 unfold Qiw at h;split at h
 ·exact km h
 ·exact h.elim
def Qix:GM
 | [.agg u0,.agg u1],k=>un 2 (fun a0 a1=>un 2 (fun a2 a3 =>
  call Qiu [.one a0,.one a2] fun o0 =>
  unP .not (atP o0 0) fun r1 =>
  iteP r1
   (rt [.sc] [(.bool false)] k)
   (call Qiw [.one a1,.one a3] fun o2 =>
   unP .not (atP o2 0) fun r3 =>
   iteP r3
    (rt [.sc] [(.bool false)] k)
    (rt [.sc] [(.bool true)] k))) u1) u0
 | _,_=>False
abbrev Qix_e:Ent:=⟨[32],Qix⟩
theorem Qix_w:EntOK Tryz.prog TT Qix_e:=okF_ tabok (L:=[Qiu_e,Qiw_e]) ⟨Qiu_w,Qiw_w,trivial⟩ (keep:=[]) (l:=[]) Tryz.func32 trivial fun av k h=>by
 unfold Qix at h;split at h
 ·apply un_all h;clear h;intro a0 a1 h;apply un_all h;clear h;intro a2 a3 h;exact km h
 ·exact h.elim
def Qiy:GM
 | [.agg u0,.agg u1],k=>un 2 (fun a0 a1=>un 2 (fun a2 a3 =>
  binP .neq a0 a2 fun r0 =>
  iteP r0
   (rt [.sc] [(.bool false)] k)
   (call Qic [.one a1,.one a3] fun o1 =>
   unP .not (atP o1 0) fun r2 =>
   iteP r2
    (rt [.sc] [(.bool false)] k)
    (rt [.sc] [(.bool true)] k))) u1) u0
 | _,_=>False
abbrev Qiy_e:Ent:=⟨[279],Qiy⟩
theorem Qiy_w:EntOK Tryz.prog TT Qiy_e:=okF_ tabok (L:=[Qic_e]) ⟨Qic_w,trivial⟩ (keep:=[]) (l:=[]) Tryz.func279 trivial fun av k h=>by
 unfold Qiy at h;split at h
 ·apply un_all h;clear h;intro a0 a1 h;apply un_all h;clear h;intro a2 a3 h;exact km h
 ·exact h.elim
def Qiz:GM
 | [.agg u0,.agg u1],k=>un 13 (fun a0 a1 a2 a3 a4 a5 a6 a7 a8 a9 a10 a11 a12=>un 13 (fun a13 a14 a15 a16 a17 a18 a19 a20 a21 a22 a23 a24 a25 =>
  binP .neq a0 a13 fun r0 =>
  iteP r0
   (rt [.sc] [(.bool false)] k)
   (call Qim [.agg [a1,a2,a3,a4],.agg [a14,a15,a16,a17]] fun o1 =>
   unP .not (atP o1 0) fun r2 =>
   iteP r2
    (rt [.sc] [(.bool false)] k)
    (call Qim [.agg [a5,a6,a7,a8],.agg [a18,a19,a20,a21]] fun o3 =>
    unP .not (atP o3 0) fun r4 =>
    iteP r4
     (rt [.sc] [(.bool false)] k)
     (call Qiy [.agg [a9,a10],.agg [a22,a23]] fun o5 =>
     unP .not (atP o5 0) fun r6 =>
     iteP r6
      (rt [.sc] [(.bool false)] k)
      (call Qiy [.agg [a11,a12],.agg [a24,a25]] fun o7 =>
      unP .not (atP o7 0) fun r8 =>
      iteP r8
       (rt [.sc] [(.bool false)] k)
       (rt [.sc] [(.bool true)] k)))))) u1) u0
 | _,_=>False
abbrev Qiz_e:Ent:=⟨[280],Qiz⟩
theorem Qiz_w:EntOK Tryz.prog TT Qiz_e:=okF_ tabok (L:=[Qim_e,Qiy_e]) ⟨Qim_w,Qiy_w,trivial⟩ (keep:=[]) (l:=[]) Tryz.func280 trivial fun av k h=>by
 unfold Qiz at h;split at h
 ·apply un_all h;clear h;intro a0 a1 a2 a3 a4 a5 a6 a7 a8 a9 a10 a11 a12 h;apply un_all h;clear h;intro a13 a14 a15 a16 a17 a18 a19 a20 a21 a22 a23 a24 a25 h;exact km h
 ·exact h.elim
def Qja:GM
 | [.agg u0,.agg u1],k=>un 21 (fun a0 a1 a2 a3 a4 a5 a6 a7 a8 a9 a10 a11 a12 a13 a14 a15 a16 a17 a18 a19 a20=>un 21 (fun a21 a22 a23 a24 a25 a26 a27 a28 a29 a30 a31 a32 a33 a34 a35 a36 a37 a38 a39 a40 a41 =>
  call Qik [.one a0,.one a21] fun o0 =>
  unP .not (atP o0 0) fun r1 =>
  iteP r1
   (rt [.sc] [(.bool false)] k)
   (boolP .neq a1 a22 fun r2 =>
   iteP r2
    (rt [.sc] [(.bool false)] k)
    (call Qim [.agg [a2,a3,a4,a5],.agg [a23,a24,a25,a26]] fun o3 =>
    unP .not (atP o3 0) fun r4 =>
    iteP r4
     (rt [.sc] [(.bool false)] k)
     (call Qiy [.agg [a6,a7],.agg [a27,a28]] fun o5 =>
     unP .not (atP o5 0) fun r6 =>
     iteP r6
      (rt [.sc] [(.bool false)] k)
      (call Qiz [.agg [a8,a9,a10,a11,a12,a13,a14,a15,a16,a17,a18,a19,a20],.agg [a29,a30,a31,a32,a33,a34,a35,a36,a37,a38,a39,a40,a41]] fun o7 =>
      unP .not (atP o7 0) fun r8 =>
      iteP r8
       (rt [.sc] [(.bool false)] k)
       (rt [.sc] [(.bool true)] k)))))) u1) u0
 | _,_=>False
abbrev Qja_e:Ent:=⟨[220],Qja⟩
theorem Qja_w:EntOK Tryz.prog TT Qja_e:=okF_ tabok (L:=[Qik_e,Qim_e,Qiy_e,Qiz_e]) ⟨Qik_w,Qim_w,Qiy_w,Qiz_w,trivial⟩ (keep:=[]) (l:=[]) Tryz.func220 trivial fun av k h=>by
 unfold Qja at h;split at h
 ·apply un_all h;clear h;intro a0 a1 a2 a3 a4 a5 a6 a7 a8 a9 a10 a11 a12 a13 a14 a15 a16 a17 a18 a19 a20 h;apply un_all h;clear h;intro a21 a22 a23 a24 a25 a26 a27 a28 a29 a30 a31 a32 a33 a34 a35 a36 a37 a38 a39 a40 a41 h;exact km h
 ·exact h.elim
def Qjb:GM
 | [.agg u0,.agg u1],k=>un 23 (fun a0 a1 a2 a3 a4 a5 a6 a7 a8 a9 a10 a11 a12 a13 a14 a15 a16 a17 a18 a19 a20 a21 a22=>un 23 (fun a23 a24 a25 a26 a27 a28 a29 a30 a31 a32 a33 a34 a35 a36 a37 a38 a39 a40 a41 a42 a43 a44 a45 =>
  binP .neq a0 a23 fun r0 =>
  iteP r0
   (rt [.sc] [(.bool false)] k)
   (binP .neq a1 a24 fun r1 =>
   iteP r1
    (rt [.sc] [(.bool false)] k)
    (call Qja [.agg [a2,a3,a4,a5,a6,a7,a8,a9,a10,a11,a12,a13,a14,a15,a16,a17,a18,a19,a20,a21,a22],.agg [a25,a26,a27,a28,a29,a30,a31,a32,a33,a34,a35,a36,a37,a38,a39,a40,a41,a42,a43,a44,a45]] fun o2 =>
    unP .not (atP o2 0) fun r3 =>
    iteP r3
     (rt [.sc] [(.bool false)] k)
     (rt [.sc] [(.bool true)] k)))) u1) u0
 | _,_=>False
abbrev Qjb_e:Ent:=⟨[149],Qjb⟩
theorem Qjb_w:EntOK Tryz.prog TT Qjb_e:=okF_ tabok (L:=[Qja_e]) ⟨Qja_w,trivial⟩ (keep:=[]) (l:=[]) Tryz.func149 trivial fun av k h=>by
 unfold Qjb at h;split at h
 ·apply un_all h;clear h;intro a0 a1 a2 a3 a4 a5 a6 a7 a8 a9 a10 a11 a12 a13 a14 a15 a16 a17 a18 a19 a20 a21 a22 h;apply un_all h;clear h;intro a23 a24 a25 a26 a27 a28 a29 a30 a31 a32 a33 a34 a35 a36 a37 a38 a39 a40 a41 a42 a43 a44 a45 h;exact km h
 ·exact h.elim
def Qjc_r0 (v:List PV) (K:List PV→Prop) (x0k:Prop) (x1k:PV→PV→PV→PV→Prop):Prop :=
 un 4 (fun v0 v1 v2 v3 =>
  lenP v0 fun r0 =>
  binP .lss v3 r0 fun r1 =>
  iteP r1
   (elemP 23 v0 v3 fun c2 =>
   elemP 23 v1 v3 fun c3 =>
   call Qjb [.agg [(atP c2 0),(atP c2 1),(atP c2 2),(atP c2 3),(atP c2 4),(atP c2 5),(atP c2 6),(atP c2 7),(atP c2 8),(atP c2 9),(atP c2 10),(atP c2 11),(atP c2 12),(atP c2 13),(atP c2 14),(atP c2 15),(atP c2 16),(atP c2 17),(atP c2 18),(atP c2 19),(atP c2 20),(atP c2 21),(atP c2 22)],.agg [(atP c3 0),(atP c3 1),(atP c3 2),(atP c3 3),(atP c3 4),(atP c3 5),(atP c3 6),(atP c3 7),(atP c3 8),(atP c3 9),(atP c3 10),(atP c3 11),(atP c3 12),(atP c3 13),(atP c3 14),(atP c3 15),(atP c3 16),(atP c3 17),(atP c3 18),(atP c3 19),(atP c3 20),(atP c3 21),(atP c3 22)]] fun o4 =>
   unP .not (atP o4 0) fun r5 =>
   iteP r5
    (x0k)
    (binP .add v3 (I 1) fun r6 =>
    K [v0,v1,v2,r6]))
   (x1k v0 v1 v2 v3)) v
def Qjc:GM
 | [.one a0,.one a1],k =>
  lenP a0 fun r0 =>
  lenP a1 fun r1 =>
  binP .neq r0 r1 fun r2 =>
  iteP r2
   (rt [.sc] [(.bool false)] k)
   (lp (fun L w=>Qjc_r0 w L
    (rt [.sc] [(.bool false)] k)
    (fun q7 q8 q9 q10=>rt [.sc] [(.bool true)] k)) [a0,a1,(.bool false),(I 0)])
 | _,_=>False
abbrev Qjc_e:Ent:=⟨[67],Qjc⟩
def Qjc_l:List LE:=[⟨none,0,⟨[(0,.one zB),(1,.one zB),(4,.one zB),(5,.one zB)],[],[],0,27,[]⟩,fun K k v=>Qjc_r0 v K (k .ret ⟨[(4,.one (.kb false))],[],[],1,27,[]⟩) (fun x0 x1 x2 x3=>k (.exit 0) ⟨[(0,.one (.pv x0)),(1,.one (.pv x1)),(4,.one (.pv x2)),(5,.one (.pv x3))],[],[],0,27,[]⟩)⟩]
theorem Qjc_s:LEsOK [Qjb_e] TT.nofl (kk [0,1,4,5]) Qjc_l Tryz.f67 Qjc_l:=⟨fun v K k h=>by
 apply un_all h;exact fun v0 v1 v2 v3 h=>km h
 ,trivial⟩
theorem Qjc_w:EntOK Tryz.prog TT Qjc_e:=okF_ tabok (L:=[Qjb_e]) ⟨Qjb_w,trivial⟩ (keep:=(kk [0,1,4,5])) (l:=Qjc_l) Tryz.func67 Qjc_s fun av k h=>by
 unfold Qjc at h;split at h
 ·exact km h
 ·exact h.elim
def Qjd:GM
 | [.agg u0,.agg u1],k=>un 1 (fun a0=>un 1 (fun a1 =>
  call Qjc [.one a0,.one a1] fun o0 =>
  unP .not (atP o0 0) fun r1 =>
  iteP r1
   (rt [.sc] [(.bool false)] k)
   (rt [.sc] [(.bool true)] k)) u1) u0
 | _,_=>False
abbrev Qjd_e:Ent:=⟨[122],Qjd⟩
theorem Qjd_w:EntOK Tryz.prog TT Qjd_e:=okF_ tabok (L:=[Qjc_e]) ⟨Qjc_w,trivial⟩ (keep:=[]) (l:=[]) Tryz.func122 trivial fun av k h=>by
 unfold Qjd at h;split at h
 ·apply un_all h;clear h;intro a0 h;apply un_all h;clear h;intro a1 h;exact km h
 ·exact h.elim
def Qje:GM
 | [.agg u0,.agg u1],k=>un 8 (fun a0 a1 a2 a3 a4 a5 a6 a7=>un 8 (fun a8 a9 a10 a11 a12 a13 a14 a15 =>
  binP .neq a0 a8 fun r0 =>
  iteP r0
   (rt [.sc] [(.bool false)] k)
   (call Qie [.one a1,.one a9] fun o1 =>
   unP .not (atP o1 0) fun r2 =>
   iteP r2
    (rt [.sc] [(.bool false)] k)
    (call Qip [.one a2,.one a10] fun o3 =>
    unP .not (atP o3 0) fun r4 =>
    iteP r4
     (rt [.sc] [(.bool false)] k)
     (call Qir [.one a3,.one a11] fun o5 =>
     unP .not (atP o5 0) fun r6 =>
     iteP r6
      (rt [.sc] [(.bool false)] k)
      (call Qit [.one a4,.one a12] fun o7 =>
      unP .not (atP o7 0) fun r8 =>
      iteP r8
       (rt [.sc] [(.bool false)] k)
       (call Qix [.agg [a5,a6],.agg [a13,a14]] fun o9 =>
       unP .not (atP o9 0) fun r10 =>
       iteP r10
        (rt [.sc] [(.bool false)] k)
        (call Qjd [.agg [a7],.agg [a15]] fun o11 =>
        unP .not (atP o11 0) fun r12 =>
        iteP r12
         (rt [.sc] [(.bool false)] k)
         (rt [.sc] [(.bool true)] k)))))))) u1) u0
 | _,_=>False
abbrev Qje_e:Ent:=⟨[42],Qje⟩
theorem Qje_w:EntOK Tryz.prog TT Qje_e:=okF_ tabok (L:=[Qie_e,Qip_e,Qir_e,Qit_e,Qix_e,Qjd_e]) ⟨Qie_w,Qip_w,Qir_w,Qit_w,Qix_w,Qjd_w,trivial⟩ (keep:=[]) (l:=[]) Tryz.func42 trivial fun av k h=>by
 unfold Qje at h;split at h
 ·apply un_all h;clear h;intro a0 a1 a2 a3 a4 a5 a6 a7 h;apply un_all h;clear h;intro a8 a9 a10 a11 a12 a13 a14 a15 h;exact km h
 ·exact h.elim
def Qjf_r0 (v:List PV) (K:List PV→Prop) (x0k:Prop) (x1k:PV→PV→PV→PV→Prop):Prop :=
 un 4 (fun v0 v1 v2 v3 =>
  lenP v0 fun r0 =>
  binP .lss v3 r0 fun r1 =>
  iteP r1
   (elemP 1 v0 v3 fun c2 =>
   binP .neq (atP c2 0) v1 fun r3 =>
   iteP r3
    (x0k)
    (binP .add v1 (I 1) fun r4 =>
    binP .add v3 (I 1) fun r5 =>
    K [v0,r4,v2,r5]))
   (x1k v0 v1 v2 v3)) v
def Qjf:GM
 | [.one a0,.one a1],k =>
  lp (fun L w=>Qjf_r0 w L
   (rt [.sc] [(I (-1))] k)
   (fun q6 q7 q8 q9=>rt [.sc] [q7] k)) [a0,a1,(I 0),(I 0)]
 | _,_=>False
abbrev Qjf_e:Ent:=⟨[102],Qjf⟩
def Qjf_l:List LE:=[⟨none,0,⟨[(0,.one zB),(1,.one zB),(4,.one zB),(5,.one zB)],[],[],0,21,[]⟩,fun K k v=>Qjf_r0 v K (k .ret ⟨[(4,.one (.pv (I (-1))))],[],[],0,21,[]⟩) (fun x0 x1 x2 x3=>k (.exit 0) ⟨[(0,.one (.pv x0)),(1,.one (.pv x1)),(4,.one (.pv x2)),(5,.one (.pv x3))],[],[],0,21,[]⟩)⟩]
theorem Qjf_s:LEsOK [] TT.nofl (kk [0,1,4,5]) Qjf_l Tryz.f102 Qjf_l:=⟨fun v K k h=>by
 apply un_all h;exact fun v0 v1 v2 v3 h=>km h
 ,trivial⟩
theorem Qjf_w:EntOK Tryz.prog TT Qjf_e:=okF_ tabok (L:=[]) trivial (keep:=(kk [0,1,4,5])) (l:=Qjf_l) Tryz.func102 Qjf_s fun av k h=>by
 unfold Qjf at h;split at h
 ·exact km h
 ·exact h.elim
def Qjg_r0 (v:List PV) (K:List PV→Prop) (x0k:Prop) (x1k:PV→PV→PV→PV→Prop):Prop :=
 un 4 (fun v0 v1 v2 v3 =>
  lenP v0 fun r0 =>
  binP .lss v3 r0 fun r1 =>
  iteP r1
   (elemP 1 v0 v3 fun c2 =>
   call Qjf [.one (atP c2 0),.one v1] fun o3 =>
   binP .lss (atP o3 0) (I 0) fun r4 =>
   iteP r4
    (x0k)
    (binP .add v3 (I 1) fun r5 =>
    K [v0,(atP o3 0),v2,r5]))
   (x1k v0 v1 v2 v3)) v
def Qjg:GM
 | [.one a0,.one a1],k =>
  lp (fun L w=>Qjg_r0 w L
   (rt [.sc] [(I (-1))] k)
   (fun q6 q7 q8 q9=>rt [.sc] [q7] k)) [a0,a1,(I 0),(I 0)]
 | _,_=>False
abbrev Qjg_e:Ent:=⟨[128],Qjg⟩
def Qjg_l:List LE:=[⟨none,0,⟨[(0,.one zB),(1,.one zB),(4,.one zB),(5,.one zB)],[],[],0,22,[]⟩,fun K k v=>Qjg_r0 v K (k .ret ⟨[(4,.one (.pv (I (-1))))],[],[],1,22,[]⟩) (fun x0 x1 x2 x3=>k (.exit 0) ⟨[(0,.one (.pv x0)),(1,.one (.pv x1)),(4,.one (.pv x2)),(5,.one (.pv x3))],[],[],0,22,[]⟩)⟩]
theorem Qjg_s:LEsOK [Qjf_e] TT.nofl (kk [0,1,4,5]) Qjg_l Tryz.f128 Qjg_l:=⟨fun v K k h=>by
 apply un_all h;exact fun v0 v1 v2 v3 h=>km h
 ,trivial⟩
theorem Qjg_w:EntOK Tryz.prog TT Qjg_e:=okF_ tabok (L:=[Qjf_e]) ⟨Qjf_w,trivial⟩ (keep:=(kk [0,1,4,5])) (l:=Qjg_l) Tryz.func128 Qjg_s fun av k h=>by
 unfold Qjg at h;split at h
 ·exact km h
 ·exact h.elim
def Qjh_r0 (v:List PV) (K:List PV→Prop) (x0k:Prop) (x1k:PV→PV→PV→PV→Prop):Prop :=
 un 4 (fun v0 v1 v2 v3 =>
  lenP v0 fun r0 =>
  binP .lss v3 r0 fun r1 =>
  iteP r1
   (elemP 2 v0 v3 fun c2 =>
   binP .neq (atP c2 0) v1 fun r3 =>
   iteP r3
    (x0k)
    (binP .add v1 (I 1) fun r4 =>
    elemP 2 v0 v3 fun c5 =>
    binP .neq (atP c5 1) r4 fun r6 =>
    iteP r6
     (x0k)
     (binP .add r4 (I 1) fun r7 =>
     binP .add v3 (I 1) fun r8 =>
     K [v0,r7,v2,r8])))
   (x1k v0 v1 v2 v3)) v
def Qjh:GM
 | [.one a0,.one a1],k =>
  lp (fun L w=>Qjh_r0 w L
   (rt [.sc] [(I (-1))] k)
   (fun q9 q10 q11 q12=>rt [.sc] [q10] k)) [a0,a1,(I 0),(I 0)]
 | _,_=>False
abbrev Qjh_e:Ent:=⟨[231],Qjh⟩
def Qjh_l:List LE:=[⟨none,0,⟨[(0,.one zB),(1,.one zB),(4,.one zB),(5,.one zB)],[],[],0,31,[]⟩,fun K k v=>Qjh_r0 v K (k .ret ⟨[(4,.one (.pv (I (-1))))],[],[],0,31,[]⟩) (fun x0 x1 x2 x3=>k (.exit 0) ⟨[(0,.one (.pv x0)),(1,.one (.pv x1)),(4,.one (.pv x2)),(5,.one (.pv x3))],[],[],0,31,[]⟩)⟩]
theorem Qjh_s:LEsOK [] TT.nofl (kk [0,1,4,5]) Qjh_l Tryz.f231 Qjh_l:=⟨fun v K k h=>by
 apply un_all h;exact fun v0 v1 v2 v3 h=>km h
 ,trivial⟩
theorem Qjh_w:EntOK Tryz.prog TT Qjh_e:=okF_ tabok (L:=[]) trivial (keep:=(kk [0,1,4,5])) (l:=Qjh_l) Tryz.func231 Qjh_s fun av k h=>by
 unfold Qjh at h;split at h
 ·exact km h
 ·exact h.elim
def Qji_r0 (v:List PV) (K:List PV→Prop) (x0k:Prop) (x1k:Prop) (x2k:Prop) (x3k:Prop) (x4k:Prop) (x5k:PV→PV→PV→PV→Prop):Prop :=
 un 4 (fun v0 v1 v2 v3 =>
  lenP v0 fun r0 =>
  binP .lss v3 r0 fun r1 =>
  iteP r1
   (elemP 17 v0 v3 fun c2 =>
   binP .neq (atP c2 0) v1 fun r3 =>
   iteP r3
    (x0k)
    (binP .add v1 (I 1) fun r4 =>
    elemP 17 v0 v3 fun c5 =>
    binP .neq (atP c5 1) r4 fun r6 =>
    iteP r6
     (x0k)
     (binP .add r4 (I 1) fun r7 =>
     elemP 17 v0 v3 fun c8 =>
     binP .neq (atP c8 2) r7 fun r9 =>
     iteP r9
      (x0k)
      (binP .add r7 (I 1) fun r10 =>
      elemP 17 v0 v3 fun c11 =>
      binP .neq (atP c11 3) r10 fun r12 =>
      iteP r12
       (x0k)
       (binP .add r10 (I 1) fun r13 =>
       elemP 17 v0 v3 fun c14 =>
       binP .neq (atP c14 4) r13 fun r15 =>
       iteP r15
        (x0k)
        (binP .add r13 (I 1) fun r16 =>
        elemP 17 v0 v3 fun c17 =>
        binP .neq (atP c17 5) r16 fun r18 =>
        iteP r18
         (x0k)
         (binP .add r16 (I 1) fun r19 =>
         elemP 17 v0 v3 fun c20 =>
         binP .neq (atP c20 6) r19 fun r21 =>
         iteP r21
          (x0k)
          (binP .add r19 (I 1) fun r22 =>
          elemP 17 v0 v3 fun c23 =>
          binP .neq (atP c23 7) r22 fun r24 =>
          iteP r24
           (x0k)
           (binP .add r22 (I 1) fun r25 =>
           elemP 17 v0 v3 fun c26 =>
           call Qjf [.one (atP c26 8),.one r25] fun o27 =>
           binP .lss (atP o27 0) (I 0) fun r28 =>
           iteP r28
            (x1k)
            (elemP 17 v0 v3 fun c29 =>
            binP .neq (atP c29 9) (atP o27 0) fun r30 =>
            iteP r30
             (x1k)
             (binP .add (atP o27 0) (I 1) fun r31 =>
             elemP 17 v0 v3 fun c32 =>
             call Qjf [.one (atP c32 10),.one r31] fun o33 =>
             binP .lss (atP o33 0) (I 0) fun r34 =>
             iteP r34
              (x2k)
              (elemP 17 v0 v3 fun c35 =>
              binP .neq (atP c35 11) (atP o33 0) fun r36 =>
              iteP r36
               (x2k)
               (binP .add (atP o33 0) (I 1) fun r37 =>
               elemP 17 v0 v3 fun c38 =>
               binP .neq (atP c38 12) r37 fun r39 =>
               iteP r39
                (x2k)
                (binP .add r37 (I 1) fun r40 =>
                elemP 17 v0 v3 fun c41 =>
                call Qjf [.one (atP c41 13),.one r40] fun o42 =>
                binP .lss (atP o42 0) (I 0) fun r43 =>
                iteP r43
                 (x3k)
                 (elemP 17 v0 v3 fun c44 =>
                 binP .neq (atP c44 14) (atP o42 0) fun r45 =>
                 iteP r45
                  (x3k)
                  (binP .add (atP o42 0) (I 1) fun r46 =>
                  elemP 17 v0 v3 fun c47 =>
                  binP .rem r46 (I 3) fun r48 =>
                  binP .eql r48 (I 0) fun r49 =>
                  boolP .neq (atP c47 15) r49 fun r50 =>
                  iteP r50
                   (x3k)
                   (binP .add r46 (I 1) fun r51 =>
                   elemP 17 v0 v3 fun c52 =>
                   call Qjh [.one (atP c52 16),.one r51] fun o53 =>
                   binP .lss (atP o53 0) (I 0) fun r54 =>
                   iteP r54
                    (x4k)
                    (binP .add v3 (I 1) fun r55 =>
                    K [v0,(atP o53 0),v2,r55]))))))))))))))))))
   (x5k v0 v1 v2 v3)) v
def Qji:GM
 | [.one a0,.one a1],k =>
  lp (fun L w=>Qji_r0 w L
   (rt [.sc] [(I (-1))] k)
   (rt [.sc] [(I (-1))] k)
   (rt [.sc] [(I (-1))] k)
   (rt [.sc] [(I (-1))] k)
   (rt [.sc] [(I (-1))] k)
   (fun q56 q57 q58 q59=>rt [.sc] [q57] k)) [a0,a1,(I 0),(I 0)]
 | _,_=>False
abbrev Qji_e:Ent:=⟨[165],Qji⟩
def Qji_l:List LE:=[⟨none,0,⟨[(0,.one zB),(1,.one zB),(4,.one zB),(5,.one zB)],[],[],0,190,[]⟩,fun K k v=>Qji_r0 v K (k .ret ⟨[(4,.one (.pv (I (-1))))],[],[],0,190,[]⟩) (k .ret ⟨[(4,.one (.pv (I (-1))))],[],[],1,190,[]⟩) (k .ret ⟨[(4,.one (.pv (I (-1))))],[],[],2,190,[]⟩) (k .ret ⟨[(4,.one (.pv (I (-1))))],[],[],3,190,[]⟩) (k .ret ⟨[(4,.one (.pv (I (-1))))],[],[],4,190,[]⟩) (fun x0 x1 x2 x3=>k (.exit 0) ⟨[(0,.one (.pv x0)),(1,.one (.pv x1)),(4,.one (.pv x2)),(5,.one (.pv x3))],[],[],0,190,[]⟩)⟩]
theorem Qji_s:LEsOK [Qjf_e,Qjh_e] TT.nofl (kk [0,1,4,5]) Qji_l Tryz.f165 Qji_l:=⟨fun v K k h=>by
 apply un_all h;exact fun v0 v1 v2 v3 h=>km h
 ,trivial⟩
theorem Qji_w:EntOK Tryz.prog TT Qji_e:=okF_ tabok (L:=[Qjf_e,Qjh_e]) ⟨Qjf_w,Qjh_w,trivial⟩ (keep:=(kk [0,1,4,5])) (l:=Qji_l) Tryz.func165 Qji_s fun av k h=>by
 unfold Qji at h;split at h
 ·exact km h
 ·exact h.elim
def Qjj_r0 (v:List PV) (K:List PV→Prop) (x0k:Prop) (x1k:PV→PV→PV→PV→Prop):Prop :=
 un 4 (fun v0 v1 v2 v3 =>
  lenP v0 fun r0 =>
  binP .lss v3 r0 fun r1 =>
  iteP r1
   (elemP 1 v0 v3 fun c2 =>
   call laws_markText [.one v1] fun o3 =>
   binP .neq (atP c2 0) (atP o3 0) fun r4 =>
   iteP r4
    (x0k)
    (binP .add v1 (I 1) fun r5 =>
    binP .add v3 (I 1) fun r6 =>
    K [v0,r5,v2,r6]))
   (x1k v0 v1 v2 v3)) v
def Qjj:GM
 | [.one a0,.one a1],k =>
  lp (fun L w=>Qjj_r0 w L
   (rt [.sc] [(I (-1))] k)
   (fun q7 q8 q9 q10=>rt [.sc] [q8] k)) [a0,a1,(I 0),(I 0)]
 | _,_=>False
abbrev Qjj_e:Ent:=⟨[78],Qjj⟩
def Qjj_l:List LE:=[⟨none,0,⟨[(0,.one zB),(1,.one zB),(4,.one zB),(5,.one zB)],[],[],0,22,[]⟩,fun K k v=>Qjj_r0 v K (k .ret ⟨[(4,.one (.pv (I (-1))))],[],[],1,22,[]⟩) (fun x0 x1 x2 x3=>k (.exit 0) ⟨[(0,.one (.pv x0)),(1,.one (.pv x1)),(4,.one (.pv x2)),(5,.one (.pv x3))],[],[],0,22,[]⟩)⟩]
theorem Qjj_s:LEsOK [laws_markText_e] TT.nofl (kk [0,1,4,5]) Qjj_l Tryz.f78 Qjj_l:=⟨fun v K k h=>by
 apply un_all h;exact fun v0 v1 v2 v3 h=>km h
 ,trivial⟩
theorem Qjj_w:EntOK Tryz.prog TT Qjj_e:=okF_ tabok (L:=[laws_markText_e]) ⟨laws_markText_w,trivial⟩ (keep:=(kk [0,1,4,5])) (l:=Qjj_l) Tryz.func78 Qjj_s fun av k h=>by
 unfold Qjj at h;split at h
 ·exact km h
 ·exact h.elim
def Qjk_r0 (v:List PV) (K:List PV→Prop) (x0k:Prop) (x1k:Prop) (x2k:PV→PV→PV→PV→Prop):Prop :=
 un 4 (fun v0 v1 v2 v3 =>
  lenP v0 fun r0 =>
  binP .lss v3 r0 fun r1 =>
  iteP r1
   (elemP 4 v0 v3 fun c2 =>
   call laws_markText [.one v1] fun o3 =>
   binP .neq (atP c2 0) (atP o3 0) fun r4 =>
   iteP r4
    (x0k)
    (binP .add v1 (I 1) fun r5 =>
    elemP 4 v0 v3 fun c6 =>
    binP .neq (atP c6 1) r5 fun r7 =>
    iteP r7
     (x0k)
     (binP .add r5 (I 1) fun r8 =>
     elemP 4 v0 v3 fun c9 =>
     binP .neq (atP c9 2) r8 fun r10 =>
     iteP r10
      (x0k)
      (binP .add r8 (I 1) fun r11 =>
      elemP 4 v0 v3 fun c12 =>
      call Qjj [.one (atP c12 3),.one r11] fun o13 =>
      binP .lss (atP o13 0) (I 0) fun r14 =>
      iteP r14
       (x1k)
       (binP .add v3 (I 1) fun r15 =>
       K [v0,(atP o13 0),v2,r15])))))
   (x2k v0 v1 v2 v3)) v
def Qjk:GM
 | [.one a0,.one a1],k =>
  lp (fun L w=>Qjk_r0 w L
   (rt [.sc] [(I (-1))] k)
   (rt [.sc] [(I (-1))] k)
   (fun q16 q17 q18 q19=>rt [.sc] [q17] k)) [a0,a1,(I 0),(I 0)]
 | _,_=>False
abbrev Qjk_e:Ent:=⟨[206],Qjk⟩
def Qjk_l:List LE:=[⟨none,0,⟨[(0,.one zB),(1,.one zB),(4,.one zB),(5,.one zB)],[],[],0,50,[]⟩,fun K k v=>Qjk_r0 v K (k .ret ⟨[(4,.one (.pv (I (-1))))],[],[],1,50,[]⟩) (k .ret ⟨[(4,.one (.pv (I (-1))))],[],[],2,50,[]⟩) (fun x0 x1 x2 x3=>k (.exit 0) ⟨[(0,.one (.pv x0)),(1,.one (.pv x1)),(4,.one (.pv x2)),(5,.one (.pv x3))],[],[],0,50,[]⟩)⟩]
theorem Qjk_s:LEsOK [laws_markText_e,Qjj_e] TT.nofl (kk [0,1,4,5]) Qjk_l Tryz.f206 Qjk_l:=⟨fun v K k h=>by
 apply un_all h;exact fun v0 v1 v2 v3 h=>km h
 ,trivial⟩
theorem Qjk_w:EntOK Tryz.prog TT Qjk_e:=okF_ tabok (L:=[laws_markText_e,Qjj_e]) ⟨laws_markText_w,Qjj_w,trivial⟩ (keep:=(kk [0,1,4,5])) (l:=Qjk_l) Tryz.func206 Qjk_s fun av k h=>by
 unfold Qjk at h;split at h
 ·exact km h
 ·exact h.elim
def Qjl_r0 (v:List PV) (K:List PV→Prop) (x0k:Prop) (x1k:Prop) (x2k:PV→PV→PV→PV→Prop):Prop :=
 un 4 (fun v0 v1 v2 v3 =>
  lenP v0 fun r0 =>
  binP .lss v3 r0 fun r1 =>
  iteP r1
   (elemP 2 v0 v3 fun c2 =>
   call Qji [.one (atP c2 0),.one v1] fun o3 =>
   binP .lss (atP o3 0) (I 0) fun r4 =>
   iteP r4
    (x0k)
    (elemP 2 v0 v3 fun c5 =>
    call Qjk [.one (atP c5 1),.one (atP o3 0)] fun o6 =>
    binP .lss (atP o6 0) (I 0) fun r7 =>
    iteP r7
     (x1k)
     (binP .add v3 (I 1) fun r8 =>
     K [v0,(atP o6 0),v2,r8])))
   (x2k v0 v1 v2 v3)) v
def Qjl:GM
 | [.one a0,.one a1],k =>
  lp (fun L w=>Qjl_r0 w L
   (rt [.sc] [(I (-1))] k)
   (rt [.sc] [(I (-1))] k)
   (fun q9 q10 q11 q12=>rt [.sc] [q10] k)) [a0,a1,(I 0),(I 0)]
 | _,_=>False
abbrev Qjl_e:Ent:=⟨[129],Qjl⟩
def Qjl_l:List LE:=[⟨none,0,⟨[(0,.one zB),(1,.one zB),(4,.one zB),(5,.one zB)],[],[],0,31,[]⟩,fun K k v=>Qjl_r0 v K (k .ret ⟨[(4,.one (.pv (I (-1))))],[],[],1,31,[]⟩) (k .ret ⟨[(4,.one (.pv (I (-1))))],[],[],2,31,[]⟩) (fun x0 x1 x2 x3=>k (.exit 0) ⟨[(0,.one (.pv x0)),(1,.one (.pv x1)),(4,.one (.pv x2)),(5,.one (.pv x3))],[],[],0,31,[]⟩)⟩]
theorem Qjl_s:LEsOK [Qji_e,Qjk_e] TT.nofl (kk [0,1,4,5]) Qjl_l Tryz.f129 Qjl_l:=⟨fun v K k h=>by
 apply un_all h;exact fun v0 v1 v2 v3 h=>km h
 ,trivial⟩
theorem Qjl_w:EntOK Tryz.prog TT Qjl_e:=okF_ tabok (L:=[Qji_e,Qjk_e]) ⟨Qji_w,Qjk_w,trivial⟩ (keep:=(kk [0,1,4,5])) (l:=Qjl_l) Tryz.func129 Qjl_s fun av k h=>by
 unfold Qjl at h;split at h
 ·exact km h
 ·exact h.elim
def Qjm_r0 (v:List PV) (K:List PV→Prop) (x0k:Prop) (x1k:Prop) (x2k:Prop) (x3k:PV→PV→PV→PV→Prop):Prop :=
 un 4 (fun v0 v1 v2 v3 =>
  lenP v0 fun r0 =>
  binP .lss v3 r0 fun r1 =>
  iteP r1
   (elemP 3 v0 v3 fun c2 =>
   call Qji [.one (atP c2 0),.one v1] fun o3 =>
   binP .lss (atP o3 0) (I 0) fun r4 =>
   iteP r4
    (x0k)
    (elemP 3 v0 v3 fun c5 =>
    call Qjk [.one (atP c5 1),.one (atP o3 0)] fun o6 =>
    binP .lss (atP o6 0) (I 0) fun r7 =>
    iteP r7
     (x1k)
     (elemP 3 v0 v3 fun c8 =>
     call Qjf [.one (atP c8 2),.one (atP o6 0)] fun o9 =>
     binP .lss (atP o9 0) (I 0) fun r10 =>
     iteP r10
      (x2k)
      (binP .add v3 (I 1) fun r11 =>
      K [v0,(atP o9 0),v2,r11]))))
   (x3k v0 v1 v2 v3)) v
def Qjm:GM
 | [.one a0,.one a1],k =>
  lp (fun L w=>Qjm_r0 w L
   (rt [.sc] [(I (-1))] k)
   (rt [.sc] [(I (-1))] k)
   (rt [.sc] [(I (-1))] k)
   (fun q12 q13 q14 q15=>rt [.sc] [q13] k)) [a0,a1,(I 0),(I 0)]
 | _,_=>False
abbrev Qjm_e:Ent:=⟨[130],Qjm⟩
def Qjm_l:List LE:=[⟨none,0,⟨[(0,.one zB),(1,.one zB),(4,.one zB),(5,.one zB)],[],[],0,42,[]⟩,fun K k v=>Qjm_r0 v K (k .ret ⟨[(4,.one (.pv (I (-1))))],[],[],1,42,[]⟩) (k .ret ⟨[(4,.one (.pv (I (-1))))],[],[],2,42,[]⟩) (k .ret ⟨[(4,.one (.pv (I (-1))))],[],[],3,42,[]⟩) (fun x0 x1 x2 x3=>k (.exit 0) ⟨[(0,.one (.pv x0)),(1,.one (.pv x1)),(4,.one (.pv x2)),(5,.one (.pv x3))],[],[],0,42,[]⟩)⟩]
theorem Qjm_s:LEsOK [Qji_e,Qjk_e,Qjf_e] TT.nofl (kk [0,1,4,5]) Qjm_l Tryz.f130 Qjm_l:=⟨fun v K k h=>by
 apply un_all h;exact fun v0 v1 v2 v3 h=>km h
 ,trivial⟩
theorem Qjm_w:EntOK Tryz.prog TT Qjm_e:=okF_ tabok (L:=[Qji_e,Qjk_e,Qjf_e]) ⟨Qji_w,Qjk_w,Qjf_w,trivial⟩ (keep:=(kk [0,1,4,5])) (l:=Qjm_l) Tryz.func130 Qjm_s fun av k h=>by
 unfold Qjm at h;split at h
 ·exact km h
 ·exact h.elim
def Qjn_r0 (v:List PV) (K:List PV→Prop) (x0k:Prop) (x1k:PV→PV→PV→PV→Prop):Prop :=
 un 4 (fun v0 v1 v2 v3 =>
  lenP v0 fun r0 =>
  binP .lss v3 r0 fun r1 =>
  iteP r1
   (elemP 2 v0 v3 fun c2 =>
   call Qjl [.one (atP c2 0),.one v1] fun o3 =>
   binP .lss (atP o3 0) (I 0) fun r4 =>
   iteP r4
    (x0k)
    (elemP 2 v0 v3 fun c5 =>
    binP .neq (atP c5 1) (atP o3 0) fun r6 =>
    iteP r6
     (x0k)
     (binP .add (atP o3 0) (I 1) fun r7 =>
     binP .add v3 (I 1) fun r8 =>
     K [v0,r7,v2,r8])))
   (x1k v0 v1 v2 v3)) v
def Qjn:GM
 | [.one a0,.one a1],k =>
  lp (fun L w=>Qjn_r0 w L
   (rt [.sc] [(I (-1))] k)
   (fun q9 q10 q11 q12=>rt [.sc] [q10] k)) [a0,a1,(I 0),(I 0)]
 | _,_=>False
abbrev Qjn_e:Ent:=⟨[131],Qjn⟩
def Qjn_l:List LE:=[⟨none,0,⟨[(0,.one zB),(1,.one zB),(4,.one zB),(5,.one zB)],[],[],0,31,[]⟩,fun K k v=>Qjn_r0 v K (k .ret ⟨[(4,.one (.pv (I (-1))))],[],[],1,31,[]⟩) (fun x0 x1 x2 x3=>k (.exit 0) ⟨[(0,.one (.pv x0)),(1,.one (.pv x1)),(4,.one (.pv x2)),(5,.one (.pv x3))],[],[],0,31,[]⟩)⟩]
theorem Qjn_s:LEsOK [Qjl_e] TT.nofl (kk [0,1,4,5]) Qjn_l Tryz.f131 Qjn_l:=⟨fun v K k h=>by
 apply un_all h;exact fun v0 v1 v2 v3 h=>km h
 ,trivial⟩
theorem Qjn_w:EntOK Tryz.prog TT Qjn_e:=okF_ tabok (L:=[Qjl_e]) ⟨Qjl_w,trivial⟩ (keep:=(kk [0,1,4,5])) (l:=Qjn_l) Tryz.func131 Qjn_s fun av k h=>by
 unfold Qjn at h;split at h
 ·exact km h
 ·exact h.elim
def Qjo_r0 (v:List PV) (K:List PV→Prop) (x0k:Prop) (x1k:PV→PV→PV→PV→Prop):Prop :=
 un 4 (fun v0 v1 v2 v3 =>
  lenP v0 fun r0 =>
  binP .lss v3 r0 fun r1 =>
  iteP r1
   (elemP 1 v0 v3 fun c2 =>
   call Qji [.one (atP c2 0),.one v1] fun o3 =>
   binP .lss (atP o3 0) (I 0) fun r4 =>
   iteP r4
    (x0k)
    (binP .add v3 (I 1) fun r5 =>
    K [v0,(atP o3 0),v2,r5]))
   (x1k v0 v1 v2 v3)) v
def Qjo:GM
 | [.one a0,.one a1],k =>
  lp (fun L w=>Qjo_r0 w L
   (rt [.sc] [(I (-1))] k)
   (fun q6 q7 q8 q9=>rt [.sc] [q7] k)) [a0,a1,(I 0),(I 0)]
 | _,_=>False
abbrev Qjo_e:Ent:=⟨[183],Qjo⟩
def Qjo_l:List LE:=[⟨none,0,⟨[(0,.one zB),(1,.one zB),(4,.one zB),(5,.one zB)],[],[],0,21,[]⟩,fun K k v=>Qjo_r0 v K (k .ret ⟨[(4,.one (.pv (I (-1))))],[],[],1,21,[]⟩) (fun x0 x1 x2 x3=>k (.exit 0) ⟨[(0,.one (.pv x0)),(1,.one (.pv x1)),(4,.one (.pv x2)),(5,.one (.pv x3))],[],[],0,21,[]⟩)⟩]
theorem Qjo_s:LEsOK [Qji_e] TT.nofl (kk [0,1,4,5]) Qjo_l Tryz.f183 Qjo_l:=⟨fun v K k h=>by
 apply un_all h;exact fun v0 v1 v2 v3 h=>km h
 ,trivial⟩
theorem Qjo_w:EntOK Tryz.prog TT Qjo_e:=okF_ tabok (L:=[Qji_e]) ⟨Qji_w,trivial⟩ (keep:=(kk [0,1,4,5])) (l:=Qjo_l) Tryz.func183 Qjo_s fun av k h=>by
 unfold Qjo at h;split at h
 ·exact km h
 ·exact h.elim
end Go.Ev
