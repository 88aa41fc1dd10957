/- For each function the meaning that the evaluator gives it, proved, part 3. -/
import Derived.Test.YtmhmcamcenidaaaGreatFn2
set_option linter.unusedVariables false
set_option linter.unusedSimpArgs false
set_option maxRecDepth 100000
namespace Go.Ev
open Go.Proofs Go.Proofs.Tryz
def Qhg_r0 (v:List PV) (K:List PV→Prop) (x0k:Prop) (x1k:Prop) (x2k:Prop) (x3k:Prop) (x4k:Prop) (x5k:Prop) (x6k:Prop) (x7k:Prop) (x8k:Prop) (x9k:Prop) (x10k:Prop) (x11k:Prop) (x12k:PV→PV→PV→PV→Prop):Prop :=
 un 4 (fun v0 v1 v2 v3 =>
  xaH v0 fun r0 =>
  xac .lss v3 r0 fun r1 =>
  xad r1
   (xaj 23 v0 v3 fun c2 =>
   xac .neq (atP c2 0) v1 fun r3 =>
   xad r3
    (x0k)
    (xac .add v1 (I 1) fun r4 =>
    xaj 23 v0 v3 fun c5 =>
    call laws_markText [.one r4] fun o6 =>
    xac .neq (atP c5 1) (atP o6 0) fun r7 =>
    xad r7
     (x1k)
     (xac .add r4 (I 1) fun r8 =>
     xaj 23 v0 v3 fun c9 =>
     call Qhe [.one (atP c9 2),.one r8] fun o10 =>
     xac .lss (atP o10 0) (I 0) fun r11 =>
     xad r11
      (x2k)
      (xaj 23 v0 v3 fun c12 =>
      xac .rem (atP o10 0) (I 3) fun r13 =>
      xac .eql r13 (I 0) fun r14 =>
      xeA .neq (atP c12 3) r14 fun r15 =>
      xad r15
       (x2k)
       (xac .add (atP o10 0) (I 1) fun r16 =>
       xaj 23 v0 v3 fun c17 =>
       call laws_markText [.one r16] fun o18 =>
       xac .neq (atP c17 4) (atP o18 0) fun r19 =>
       xad r19
        (x3k)
        (xac .add r16 (I 1) fun r20 =>
        xaj 23 v0 v3 fun c21 =>
        xac .neq (atP c21 5) r20 fun r22 =>
        xad r22
         (x3k)
         (xac .add r20 (I 1) fun r23 =>
         xaj 23 v0 v3 fun c24 =>
         xac .neq (atP c24 6) r23 fun r25 =>
         xad r25
          (x3k)
          (xac .add r23 (I 1) fun r26 =>
          xaj 23 v0 v3 fun c27 =>
          call Qhf [.one (atP c27 7),.one r26] fun o28 =>
          xac .lss (atP o28 0) (I 0) fun r29 =>
          xad r29
           (x4k)
           (xaj 23 v0 v3 fun c30 =>
           xac .neq (atP c30 8) (atP o28 0) fun r31 =>
           xad r31
            (x4k)
            (xac .add (atP o28 0) (I 1) fun r32 =>
            xaj 23 v0 v3 fun c33 =>
            call Qhc [.one (atP c33 9),.one r32] fun o34 =>
            xac .lss (atP o34 0) (I 0) fun r35 =>
            xad r35
             (x5k)
             (xaj 23 v0 v3 fun c36 =>
             xac .neq (atP c36 10) (atP o34 0) fun r37 =>
             xad r37
              (x5k)
              (xac .add (atP o34 0) (I 1) fun r38 =>
              xaj 23 v0 v3 fun c39 =>
              call laws_markText [.one r38] fun o40 =>
              xac .neq (atP c39 11) (atP o40 0) fun r41 =>
              xad r41
               (x6k)
               (xac .add r38 (I 1) fun r42 =>
               xaj 23 v0 v3 fun c43 =>
               xac .neq (atP c43 12) r42 fun r44 =>
               xad r44
                (x6k)
                (xac .add r42 (I 1) fun r45 =>
                xaj 23 v0 v3 fun c46 =>
                xac .neq (atP c46 13) r45 fun r47 =>
                xad r47
                 (x6k)
                 (xac .add r45 (I 1) fun r48 =>
                 xaj 23 v0 v3 fun c49 =>
                 call Qhf [.one (atP c49 14),.one r48] fun o50 =>
                 xac .lss (atP o50 0) (I 0) fun r51 =>
                 xad r51
                  (x7k)
                  (xaj 23 v0 v3 fun c52 =>
                  call laws_markText [.one (atP o50 0)] fun o53 =>
                  xac .neq (atP c52 15) (atP o53 0) fun r54 =>
                  xad r54
                   (x8k)
                   (xac .add (atP o50 0) (I 1) fun r55 =>
                   xaj 23 v0 v3 fun c56 =>
                   xac .neq (atP c56 16) r55 fun r57 =>
                   xad r57
                    (x8k)
                    (xac .add r55 (I 1) fun r58 =>
                    xaj 23 v0 v3 fun c59 =>
                    xac .neq (atP c59 17) r58 fun r60 =>
                    xad r60
                     (x8k)
                     (xac .add r58 (I 1) fun r61 =>
                     xaj 23 v0 v3 fun c62 =>
                     call Qhf [.one (atP c62 18),.one r61] fun o63 =>
                     xac .lss (atP o63 0) (I 0) fun r64 =>
                     xad r64
                      (x9k)
                      (xaj 23 v0 v3 fun c65 =>
                      xac .neq (atP c65 19) (atP o63 0) fun r66 =>
                      xad r66
                       (x9k)
                       (xac .add (atP o63 0) (I 1) fun r67 =>
                       xaj 23 v0 v3 fun c68 =>
                       call Qhc [.one (atP c68 20),.one r67] fun o69 =>
                       xac .lss (atP o69 0) (I 0) fun r70 =>
                       xad r70
                        (x10k)
                        (xaj 23 v0 v3 fun c71 =>
                        xac .neq (atP c71 21) (atP o69 0) fun r72 =>
                        xad r72
                         (x10k)
                         (xac .add (atP o69 0) (I 1) fun r73 =>
                         xaj 23 v0 v3 fun c74 =>
                         call Qhc [.one (atP c74 22),.one r73] fun o75 =>
                         xac .lss (atP o75 0) (I 0) fun r76 =>
                         xad r76
                          (x11k)
                          (xac .add v3 (I 1) fun r77 =>
                          K [v0,(atP o75 0),v2,r77]))))))))))))))))))))))))
   (x12k v0 v1 v2 v3)) v
def Qhg:GM
 | [.one a0,.one a1],k =>
  lp (fun L w=>Qhg_r0 w L
   (rt [.sc] [(I (-1))] k)
   (rt [.sc] [(I (-1))] k)
   (rt [.sc] [(I (-1))] k)
   (rt [.sc] [(I (-1))] k)
   (rt [.sc] [(I (-1))] k)
   (rt [.sc] [(I (-1))] k)
   (rt [.sc] [(I (-1))] k)
   (rt [.sc] [(I (-1))] k)
   (rt [.sc] [(I (-1))] k)
   (rt [.sc] [(I (-1))] k)
   (rt [.sc] [(I (-1))] k)
   (rt [.sc] [(I (-1))] k)
   (fun q78 q79 q80 q81=>rt [.sc] [q79] k)) [a0,a1,(I 0),(I 0)]
 | _,_=>False
def Qhg_l:List LE:=[⟨none,0,⟨[(0,.one zB),(1,.one zB),(4,.one zB),(5,.one zB)],[],[],0,278,[]⟩,fun K k v=>Qhg_r0 v K (k .ret ⟨[(4,.one (.pv (I (-1))))],[],[],0,278,[]⟩) (k .ret ⟨[(4,.one (.pv (I (-1))))],[],[],1,278,[]⟩) (k .ret ⟨[(4,.one (.pv (I (-1))))],[],[],2,278,[]⟩) (k .ret ⟨[(4,.one (.pv (I (-1))))],[],[],3,278,[]⟩) (k .ret ⟨[(4,.one (.pv (I (-1))))],[],[],4,278,[]⟩) (k .ret ⟨[(4,.one (.pv (I (-1))))],[],[],5,278,[]⟩) (k .ret ⟨[(4,.one (.pv (I (-1))))],[],[],6,278,[]⟩) (k .ret ⟨[(4,.one (.pv (I (-1))))],[],[],7,278,[]⟩) (k .ret ⟨[(4,.one (.pv (I (-1))))],[],[],8,278,[]⟩) (k .ret ⟨[(4,.one (.pv (I (-1))))],[],[],9,278,[]⟩) (k .ret ⟨[(4,.one (.pv (I (-1))))],[],[],10,278,[]⟩) (k .ret ⟨[(4,.one (.pv (I (-1))))],[],[],11,278,[]⟩) (fun x0 x1 x2 x3=>k (.exit 0) ⟨[(0,.one (.pv x0)),(1,.one (.pv x1)),(4,.one (.pv x2)),(5,.one (.pv x3))],[],[],0,278,[]⟩)⟩]
theorem Qhg_s:xaE [laws_markText_e,⟨[165],Qhe⟩,⟨[78],Qhf⟩,⟨[102],Qhc⟩] TT.nofl (kk [0,1,4,5]) Qhg_l f79 Qhg_l:=⟨fun v K k h=>by
 apply xab h;exact fun v0 v1 v2 v3 h=>km h
 ,trivial⟩
theorem Qhg_w:EO ⟨[79],Qhg⟩:=oF (ec laws_markText_w (ec Qhe_w (ec Qhf_w (ec Qhc_w en)))) (keep:=(kk [0,1,4,5])) (l:=Qhg_l) func79 Qhg_s fun av k h=>by
 unfold Qhg at h;split at h
 ·exact km h
 ·exact h.elim
def Qhh_r0 (v:List PV) (K:List PV→Prop) (x0k:PV→Prop) (x1k:Cur 5):Prop :=
 un 5 (fun v0 v1 v2 v3 v4 =>
  xaH v3 fun r0 =>
  xac .lss v2 r0 fun r1 =>
  xad r1
   (xaj 2 v3 v2 fun c2 =>
   call Qdg [.agg [(atP c2 0),(atP c2 1)]] fun o3 =>
   xac .eql (atP o3 0) v0 fun r4 =>
   xad r4
    (xac .geq v0 (I 0) fun r5 =>
    xad r5
     (x0k v2)
     (xac .add v2 (I 1) fun r6 =>
     K [v0,v1,r6,v3,v4]))
    (xac .add v2 (I 1) fun r7 =>
    K [v0,v1,r7,v3,v4]))
   (x1k v0 v1 v2 v3 v4)) v
def Qhh:GM
 | [.agg u0,.one a2],k=>un 2 (fun a0 a1 =>
  lp (fun L w=>Qhh_r0 w L
   (fun q8=>rt [.sc] [q8] k)
   (fun q9 q10 q11 q12 q13=>rt [.sc] [(I (-1))] k)) [a2,(I 0),(I 0),a0,a1]) u0
 | _,_=>False
def Qhh_l:List LE:=[⟨none,0,⟨[(1,.one zB),(2,.one (.ptr 0 0)),(4,.one zB),(5,.one zB)],[(0,[zB,zB])],[],1,26,[]⟩,fun K k v=>Qhh_r0 v K (fun x0=>k .ret ⟨[(4,.one (.pv x0))],[],[],2,26,[]⟩) (fun x0 x1 x2 x3 x4=>k (.exit 0) ⟨[(1,.one (.pv x0)),(2,.one (.ptr 0 0)),(4,.one (.pv x1)),(5,.one (.pv x2))],[(0,[.pv x3,.pv x4])],[],1,26,[]⟩)⟩]
theorem Qhh_s:xaE [⟨[110],Qdg⟩] TT (kk [1,2,4,5,22,23,999999]) Qhh_l f168 Qhh_l:=⟨fun v K k h=>by
 apply xab h;exact fun v0 v1 v2 v3 v4 h=>km h
 ,trivial⟩
theorem Qhh_w:EO ⟨[168],Qhh⟩:=oN (ec Qdg_w en) (keep:=(kk [1,2,4,5,22,23,999999])) (l:=Qhh_l) func168 Qhh_s fun av k h=>by
 unfold Qhh at h;split at h
 ·apply xab h;clear h;intro a0 a1 h;exact km h
 ·exact h.elim
def Qhi_r0 (v:List PV) (K:List PV→Prop) (x0k:PV→Prop) (x1k:Cur 4):Prop :=
 un 4 (fun v0 v1 v2 v3 =>
  xaH v0 fun r0 =>
  xac .lss v3 r0 fun r1 =>
  xad r1
   (xaj 4 v0 v3 fun c2 =>
   xac .eql (atP c2 0) v1 fun r3 =>
   xad r3
    (x0k v3)
    (xac .add v3 (I 1) fun r4 =>
    K [v0,v1,v2,r4]))
   (x1k v0 v1 v2 v3)) v
def Qhi:GM
 | [.one a0,.one a1],k =>
  lp (fun L w=>Qhi_r0 w L
   (fun q5=>rt [.sc] [q5] k)
   (fun q6 q7 q8 q9=>rt [.sc] [(I (-1))] k)) [a0,a1,(I 0),(I 0)]
 | _,_=>False
def Qhi_l:List LE:=[⟨none,0,⟨[(0,.one zB),(1,.one zB),(4,.one zB),(5,.one zB)],[],[],0,20,[]⟩,fun K k v=>Qhi_r0 v K (fun x0=>k .ret ⟨[(4,.one (.pv x0))],[],[],0,20,[]⟩) (fun x0 x1 x2 x3=>k (.exit 0) ⟨[(0,.one (.pv x0)),(1,.one (.pv x1)),(4,.one (.pv x2)),(5,.one (.pv x3))],[],[],0,20,[]⟩)⟩]
theorem Qhi_s:xaE [] TT (kk [0,1,4,5,999999]) Qhi_l f293 Qhi_l:=⟨fun v K k h=>by
 apply xab h;exact fun v0 v1 v2 v3 h=>km h
 ,trivial⟩
theorem Qhi_w:EO ⟨[293],Qhi⟩:=oN en (keep:=(kk [0,1,4,5,999999])) (l:=Qhi_l) func293 Qhi_s fun av k h=>by
 unfold Qhi at h;split at h
 ·exact km h
 ·exact h.elim
def Qhj_r0 (v:List PV) (K:List PV→Prop) (x0k:Cur 4):Prop :=
 un 4 (fun v0 v1 v2 v3 =>
  xaH v1 fun r0 =>
  xac .gtr r0 (I 1) fun r1 =>
  xad r1
   (xac .add v0 (I 1) fun r2 =>
   xac .rem v0 (I 2) fun r3 =>
   xac .mul (I 2) r3 fun r4 =>
   xac .sub r2 r4 fun r5 =>
   xaH v1 fun r6 =>
   xac .lss r5 r6 fun r7 =>
   xad r7
    (xaj 1 v1 r5 fun c8 =>
    (1=1)∧(1≤16777216)∧(1=1)∧(0=0)∧(1=1)∧(xae [.pv (I 0)] [.pv (atP c8 0)])∧xbh 1 v3 (.list 1 [[(atP c8 0)]]) fun r9 =>
    call Qda [.one v1] fun o10 =>
    xac .quo v0 (I 2) fun r11 =>
    K [r11,(atP o10 0),v2,r9])
    (call Qda [.one v1] fun o12 =>
    xac .quo v0 (I 2) fun r13 =>
    K [r13,(atP o12 0),v2,v3]))
   (x0k v0 v1 v2 v3)) v
def Qhj:GM
 | [.one a0,.one a1],k =>
  (0=0)∧(0≤16777216)∧(1=1)∧xaH a0 fun r0 =>
  xac .sub r0 (I 1) fun r1 =>
  call Qbo [.one a1,.one (I 0),.one r1] fun o2 =>
  unP .not (atP o2 0) fun r3 =>
  xad r3
   (rt [.own true 3 1] [(.list 1 [])] k)
   (lp (fun L w=>Qhj_r0 w L
    (fun q14 q15 q16 q17=>rt [.own true 3 1] [q17] k)) [a1,a0,(.list 1 []),(.list 1 [])])
 | _,_=>False
def Qhj_l:List LE:=[⟨none,0,⟨[(1,.one zB),(4,.one (.own 2)),(5,.one (.own 0)),(6,.one zB)],[],[(2,⟨.deep,3,1,(.bool false)⟩),(0,⟨.deep,3,1,(.bool false)⟩)],3,42,[]⟩,fun K k v=>Qhj_r0 v K (fun x0 x1 x2 x3=>k (.exit 0) ⟨[(1,.one (.pv x0)),(4,.one (.own 2)),(5,.one (.own 0)),(6,.one (.pv x1))],[],[(2,⟨.deep,3,1,x2⟩),(0,⟨.deep,3,1,x3⟩)],3,42,[]⟩)⟩]
theorem Qhj_s:xaE [⟨[133],Qbo⟩,⟨[362],Qda⟩] TT (kk [1,4,5,6,999999]) Qhj_l f346 Qhj_l:=⟨fun v K k h=>by
 apply xab h;exact fun v0 v1 v2 v3 h=>km h
 ,trivial⟩
theorem Qhj_w:EO ⟨[346],Qhj⟩:=oN (ec Qbo_w (ec Qda_w en)) (keep:=(kk [1,4,5,6,999999])) (l:=Qhj_l) func346 Qhj_s fun av k h=>by
 unfold Qhj at h;split at h
 ·exact km h
 ·exact h.elim
def Qhk:GM
 | [.one a0,.one a1],k =>
  call Qhi [.one a0,.one a1] fun o0 =>
  xac .lss (atP o0 0) (I 0) fun r1 =>
  xad r1
   (rt [.sc,.pv,.sc] [(I 0),(.list 1 []),(.bool false)] k)
   (call Qcy [.one a0] fun o2 =>
   call Qhj [.one (atP o2 0),.one (atP o0 0)] fun o3 =>
   rt [.sc,.pv,.sc] [(atP o0 0),(atP o3 0),(.bool true)] k)
 | _,_=>False
theorem Qhk_w:EO ⟨[294],Qhk⟩:=oNz (ec Qhi_w (ec Qcy_w (ec Qhj_w en))) func294 fun av k h=>by
 unfold Qhk at h;split at h
 ·exact km h
 ·exact h.elim
def Qhl_r0 (v:List PV) (K:List PV→Prop) (x0k:Cur 5):Prop :=
 un 5 (fun v0 v1 v2 v3 v4 =>
  xaH v0 fun r0 =>
  xac .lss v4 r0 fun r1 =>
  xad r1
   (xaj 4 v0 v4 fun c2 =>
   call Qcs [.one (atP c2 0),.one v1] fun o3 =>
   xac .lss (atP o3 0) (I 0) fun r4 =>
   xad r4
    (xac .add v3 (I 1) fun r5 =>
    xac .add v4 (I 1) fun r6 =>
    K [v0,v1,v2,r5,r6])
    (xac .add v4 (I 1) fun r7 =>
    K [v0,v1,v2,v3,r7]))
   (x0k v0 v1 v2 v3 v4)) v
def Qhl:GM
 | [.one a0,.one a1],k =>
  lp (fun L w=>Qhl_r0 w L
   (fun q8 q9 q10 q11 q12=>rt [.sc] [q11] k)) [a0,a1,(I 0),(I 0),(I 0)]
 | _,_=>False
def Qhl_l:List LE:=[⟨none,0,⟨[(0,.one zB),(1,.one zB),(4,.one zB),(5,.one zB),(6,.one zB)],[],[],0,24,[]⟩,fun K k v=>Qhl_r0 v K (fun x0 x1 x2 x3 x4=>k (.exit 0) ⟨[(0,.one (.pv x0)),(1,.one (.pv x1)),(4,.one (.pv x2)),(5,.one (.pv x3)),(6,.one (.pv x4))],[],[],0,24,[]⟩)⟩]
theorem Qhl_s:xaE [⟨[312],Qcs⟩] TT (kk [0,1,4,5,6,999999]) Qhl_l f347 Qhl_l:=⟨fun v K k h=>by
 apply xab h;exact fun v0 v1 v2 v3 v4 h=>km h
 ,trivial⟩
theorem Qhl_w:EO ⟨[347],Qhl⟩:=oN (ec Qcs_w en) (keep:=(kk [0,1,4,5,6,999999])) (l:=Qhl_l) func347 Qhl_s fun av k h=>by
 unfold Qhl at h;split at h
 ·exact km h
 ·exact h.elim
def Qhm:GM
 | [.one a0,.one a1],k =>
  call Qct [.one a0] fun o0 =>
  unP .not (atP o0 0) fun r1 =>
  xad r1
   (rt g4 [(I 0),(.str ⟨#[]⟩),(I 0),(I 0),(.list 1 []),(.str ⟨#[]⟩),(I 0),(I 0),(.list 1 []),(I 0),(.list 1 []),(I 0),(.list 1 []),(.bool false)] k)
   (call Qcp [.one a1] fun o2 =>
   unP .not (atP o2 0) fun r3 =>
   xad r3
    (rt g4 [(I 0),(.str ⟨#[]⟩),(I 0),(I 0),(.list 1 []),(.str ⟨#[]⟩),(I 0),(I 0),(.list 1 []),(I 0),(.list 1 []),(I 0),(.list 1 []),(.bool false)] k)
    (call Qhi [.one a0,.one a1] fun o4 =>
    xac .geq (atP o4 0) (I 0) fun r5 =>
    xad r5
     (rt g4 [(I 0),(.str ⟨#[]⟩),(I 0),(I 0),(.list 1 []),(.str ⟨#[]⟩),(I 0),(I 0),(.list 1 []),(I 0),(.list 1 []),(I 0),(.list 1 []),(.bool false)] k)
     (call Qhl [.one a0,.one a1] fun o6 =>
     xac .gtr (atP o6 0) (I 0) fun r7 =>
     xad r7
      (xac .sub (atP o6 0) (I 1) fun r8 =>
      xaj 4 a0 r8 fun c9 =>
      call Qbj [.agg (s4 c9)] fun o10 =>
      xac .sub (atP o6 0) (I 1) fun r11 =>
      xaj 4 a0 r11 fun c12 =>
      call Qhk [.one a0,.one (atP c12 0)] fun o13 =>
      xaH a0 fun r14 =>
      xac .lss (atP o6 0) r14 fun r15 =>
      xad r15
       (xaj 4 a0 (atP o6 0) fun c16 =>
       call Qbj [.agg (s4 c16)] fun o17 =>
       xaj 4 a0 (atP o6 0) fun c18 =>
       call Qhk [.one a0,.one (atP c18 0)] fun o19 =>
       rt g4 [(atP o6 0),(atP o10 0),(atP o10 1),(atP o10 2),(atP o10 3),(atP o17 0),(atP o17 1),(atP o17 2),(atP o17 3),(atP o13 0),(atP o13 1),(atP o19 0),(atP o19 1),(.bool true)] k)
       (rt g4 [(atP o6 0),(atP o10 0),(atP o10 1),(atP o10 2),(atP o10 3),(.str ⟨#[]⟩),(I 0),(I 0),(.list 1 []),(atP o13 0),(atP o13 1),(I 0),(.list 1 []),(.bool true)] k))
      (xaH a0 fun r20 =>
      xac .lss (atP o6 0) r20 fun r21 =>
      xad r21
       (xaj 4 a0 (atP o6 0) fun c22 =>
       call Qbj [.agg (s4 c22)] fun o23 =>
       xaj 4 a0 (atP o6 0) fun c24 =>
       call Qhk [.one a0,.one (atP c24 0)] fun o25 =>
       rt g4 [(atP o6 0),(.str ⟨#[]⟩),(I 0),(I 0),(.list 1 []),(atP o23 0),(atP o23 1),(atP o23 2),(atP o23 3),(I 0),(.list 1 []),(atP o25 0),(atP o25 1),(.bool true)] k)
       (rt g4 [(atP o6 0),(.str ⟨#[]⟩),(I 0),(I 0),(.list 1 []),(.str ⟨#[]⟩),(I 0),(I 0),(.list 1 []),(I 0),(.list 1 []),(I 0),(.list 1 []),(.bool true)] k)))))
 | _,_=>False
theorem Qhm_w:EO ⟨[295],Qhm⟩:=oNz (ec Qct_w (ec Qcp_w (ec Qhi_w (ec Qhl_w (ec Qbj_w (ec Qhk_w en)))))) func295 fun av k h=>by
 unfold Qhm at h;split at h
 ·exact km h
 ·exact h.elim
def Qhn:GM
 | [.agg u0,.one a2],k=>un 2 (fun a0 a1 =>
  call Qdf [.agg [a0,a1]] fun o0 =>
  unP .not (atP o0 0) fun r1 =>
  xad r1
   (rt g2 [(.list 17 []),(.bool false),(.str ⟨#[]⟩),(I 0),(I 0),(.list 1 []),(I 0),(.list 1 []),(I 0),(.str ⟨#[]⟩),(I 0),(I 0),(.list 1 []),(.str ⟨#[]⟩),(I 0),(I 0),(.list 1 []),(I 0),(.list 1 []),(I 0),(.list 1 [])] k)
   (call Qcp [.one a2] fun o2 =>
   unP .not (atP o2 0) fun r3 =>
   xad r3
    (rt g2 [(.list 17 []),(.bool false),(.str ⟨#[]⟩),(I 0),(I 0),(.list 1 []),(I 0),(.list 1 []),(I 0),(.str ⟨#[]⟩),(I 0),(I 0),(.list 1 []),(.str ⟨#[]⟩),(I 0),(I 0),(.list 1 []),(I 0),(.list 1 []),(I 0),(.list 1 [])] k)
    (call Qbf [.one a0] fun o4 =>
    call Qhi [.one a1,.one a2] fun o5 =>
    xac .geq (atP o5 0) (I 0) fun r6 =>
    xad r6
     (xaj 4 a1 (atP o5 0) fun c7 =>
     call Qbj [.agg (s4 c7)] fun o8 =>
     call Qhk [.one a1,.one a2] fun o9 =>
     rt g2 [(atP o4 0),(.bool true),(atP o8 0),(atP o8 1),(atP o8 2),(atP o8 3),(atP o9 0),(atP o9 1),(I 0),(.str ⟨#[]⟩),(I 0),(I 0),(.list 1 []),(.str ⟨#[]⟩),(I 0),(I 0),(.list 1 []),(I 0),(.list 1 []),(I 0),(.list 1 [])] k)
     (call Qhm [.one a1,.one a2] fun o10 =>
     rt g2 [(atP o4 0),(.bool false),(.str ⟨#[]⟩),(I 0),(I 0),(.list 1 []),(I 0),(.list 1 []),(atP o10 0),(atP o10 1),(atP o10 2),(atP o10 3),(atP o10 4),(atP o10 5),(atP o10 6),(atP o10 7),(atP o10 8),(atP o10 9),(atP o10 10),(atP o10 11),(atP o10 12)] k)))) u0
 | _,_=>False
theorem Qhn_w:EO ⟨[236],Qhn⟩:=oNz (ec Qdf_w (ec Qcp_w (ec Qbf_w (ec Qhi_w (ec Qbj_w (ec Qhk_w (ec Qhm_w en))))))) func236 fun av k h=>by
 unfold Qhn at h;split at h
 ·apply xab h;clear h;intro a0 a1 h;exact km h
 ·exact h.elim
def Qho:GM
 | [.agg u0,.one a2,.one a3],k=>un 2 (fun a0 a1 =>
  call Qhh [.agg [a0,a1],.one a2] fun o0 =>
  xac .lss (atP o0 0) (I 0) fun r1 =>
  xad r1
   (rt g2 [(.list 17 []),(.bool false),(.str ⟨#[]⟩),(I 0),(I 0),(.list 1 []),(I 0),(.list 1 []),(I 0),(.str ⟨#[]⟩),(I 0),(I 0),(.list 1 []),(.str ⟨#[]⟩),(I 0),(I 0),(.list 1 []),(I 0),(.list 1 []),(I 0),(.list 1 [])] k)
   (xac .eql a1 (I 4) fun r2 =>
   xad r2
    (rt g2 [(.list 17 []),(.bool false),(.str ⟨#[]⟩),(I 0),(I 0),(.list 1 []),(I 0),(.list 1 []),(I 0),(.str ⟨#[]⟩),(I 0),(I 0),(.list 1 []),(.str ⟨#[]⟩),(I 0),(I 0),(.list 1 []),(I 0),(.list 1 []),(I 0),(.list 1 [])] k)
    (xaj 2 a0 (atP o0 0) fun c3 =>
    call Qhn [.agg [(atP c3 0),(atP c3 1)],.one a3] fun o4 =>
    xac .eql a1 (I 1) fun r5 =>
    xad r5
     (xac .add (atP o4 4) (I 1) fun r6 =>
     rt g2 [(atP o4 0),(atP o4 1),(atP o4 2),(atP o4 3),r6,(atP o4 5),(atP o4 6),(atP o4 7),(atP o4 8),(atP o4 9),(atP o4 10),(atP o4 11),(atP o4 12),(atP o4 13),(atP o4 14),(atP o4 15),(atP o4 16),(atP o4 17),(atP o4 18),(atP o4 19),(atP o4 20)] k)
     (xac .eql a1 (I 2) fun r7 =>
     xad r7
      (xaH (atP o4 0) fun r8 =>
      xac .gtr r8 (I 0) fun r9 =>
      xad r9
       (xaH (atP o4 0) fun r10 =>
       xac .sub r10 (I 1) fun r11 =>
       xgE r11 fun n12 =>
       xfS 17 (atP o4 0) none (some n12) fun r13 =>
       rt g2 [r13,(atP o4 1),(atP o4 2),(atP o4 3),(atP o4 4),(atP o4 5),(atP o4 6),(atP o4 7),(atP o4 8),(atP o4 9),(atP o4 10),(atP o4 11),(atP o4 12),(atP o4 13),(atP o4 14),(atP o4 15),(atP o4 16),(atP o4 17),(atP o4 18),(atP o4 19),(atP o4 20)] k)
       (rt g2 (s21 o4) k))
      (xac .eql a1 (I 3) fun r14 =>
      xad r14
       (rt g2 [(atP o4 0),(.bool false),(.str ⟨#[]⟩),(I 0),(I 0),(.list 1 []),(I 0),(.list 1 []),(I 0),(.str ⟨#[]⟩),(I 0),(I 0),(.list 1 []),(.str ⟨#[]⟩),(I 0),(I 0),(.list 1 []),(I 0),(.list 1 []),(I 0),(.list 1 [])] k)
       (rt g2 (s21 o4) k)))))) u0
 | _,_=>False
theorem Qho_w:EO ⟨[170],Qho⟩:=oNz (ec Qhh_w (ec Qhn_w en)) func170 fun av k h=>by
 unfold Qho at h;split at h
 ·apply xab h;clear h;intro a0 a1 h;exact km h
 ·exact h.elim
def Qhp_r0 (v:List PV) (K:List PV→Prop) (x0k:PV→Prop) (x1k:Cur 5):Prop :=
 un 5 (fun v0 v1 v2 v3 v4 =>
  xaH v3 fun r0 =>
  xac .lss v2 r0 fun r1 =>
  xad r1
   (xaj 1 v3 v2 fun c2 =>
   xaH (atP c2 0) fun r3 =>
   xac .gtr r3 (I 0) fun r4 =>
   xad r4
    (xaj 1 v3 v2 fun c5 =>
    xaj 17 (atP c5 0) (I 0) fun c6 =>
    xac .eql (atP c6 0) v0 fun r7 =>
    xad r7
     (x0k v2)
     (xac .add v2 (I 1) fun r8 =>
     K [v0,v1,r8,v3,v4]))
    (xac .add v2 (I 1) fun r9 =>
    K [v0,v1,r9,v3,v4]))
   (x1k v0 v1 v2 v3 v4)) v
def Qhp:GM
 | [.agg u0,.one a2],k=>un 2 (fun a0 a1 =>
  lp (fun L w=>Qhp_r0 w L
   (fun q10=>rt [.sc] [q10] k)
   (fun q11 q12 q13 q14 q15=>rt [.sc] [(I (-1))] k)) [a2,(I 0),(I 0),a0,a1]) u0
 | _,_=>False
def Qhp_l:List LE:=[⟨none,0,⟨[(1,.one zB),(2,.one (.ptr 0 0)),(4,.one zB),(5,.one zB)],[(0,[zB,zB])],[],1,34,[]⟩,fun K k v=>Qhp_r0 v K (fun x0=>k .ret ⟨[(4,.one (.pv x0))],[],[],1,34,[]⟩) (fun x0 x1 x2 x3 x4=>k (.exit 0) ⟨[(1,.one (.pv x0)),(2,.one (.ptr 0 0)),(4,.one (.pv x1)),(5,.one (.pv x2))],[(0,[.pv x3,.pv x4])],[],1,34,[]⟩)⟩]
theorem Qhp_s:xaE [] TT (kk [1,2,4,5,21,22,23,24,25,26,27,28,29,30,31,999999]) Qhp_l f240 Qhp_l:=⟨fun v K k h=>by
 apply xab h;exact fun v0 v1 v2 v3 v4 h=>km h
 ,trivial⟩
theorem Qhp_w:EO ⟨[240],Qhp⟩:=oN en (keep:=(kk [1,2,4,5,21,22,23,24,25,26,27,28,29,30,31,999999])) (l:=Qhp_l) func240 Qhp_s fun av k h=>by
 unfold Qhp at h;split at h
 ·apply xab h;clear h;intro a0 a1 h;exact km h
 ·exact h.elim
def Qhq:GM
 | [.agg u0,.agg u1],k=>un 16 (fun a0 a1 a2 a3 a4 a5 a6 a7 a8 a9 a10 a11 a12 a13 a14 a15=>un 16 (fun a16 a17 a18 a19 a20 a21 a22 a23 a24 a25 a26 a27 a28 a29 a30 a31 =>
  call Qbw [.agg [a0,a1,a2,a3,a4,a5,a6,a7,a8,a9,a10,a11,a12,a13,a14,a15]] fun o0 =>
  call Qbw [.agg [a16,a17,a18,a19,a20,a21,a22,a23,a24,a25,a26,a27,a28,a29,a30,a31]] fun o1 =>
  call Qcf [.one (atP o0 0),.one (atP o1 0)] fun o2 =>
  xad (atP o2 0)
   (xeA .eql a15 a31 fun r3 =>
   rt [.sc] [r3] k)
   (rt [.sc] [(.bool false)] k)) u1) u0
 | _,_=>False
theorem Qhq_w:EO ⟨[299],Qhq⟩:=oNz (ec Qbw_w (ec Qcf_w en)) func299 fun av k h=>by
 unfold Qhq at h;split at h
 ·apply xab h;clear h;(repeat intro _);rename_i h;apply xab h;clear h;(repeat intro _);rename_i h;exact km h
 ·exact h.elim
def Qhr_r0 (v:List PV) (K:List PV→Prop) (x0k:Prop) (x1k:Cur 4):Prop :=
 un 4 (fun v0 v1 v2 v3 =>
  xaH v0 fun r0 =>
  xac .lss v3 r0 fun r1 =>
  xad r1
   (xaj 17 v0 v3 fun c2 =>
   xaj 17 v1 v3 fun c3 =>
   call Qhq [.agg (s16 c2),.agg (s16 c3)] fun o4 =>
   unP .not (atP o4 0) fun r5 =>
   xad r5
    (x0k)
    (xac .add v3 (I 1) fun r6 =>
    K [v0,v1,v2,r6]))
   (x1k v0 v1 v2 v3)) v
def Qhr:GM
 | [.one a0,.one a1],k =>
  xaH a0 fun r0 =>
  xaH a1 fun r1 =>
  xac .gtr r0 r1 fun r2 =>
  xad r2
   (rt [.sc] [(.bool false)] k)
   (lp (fun L w=>Qhr_r0 w L
    (rt [.sc] [(.bool false)] k)
    (fun q7 q8 q9 q10=>rt [.sc] [(.bool true)] k)) [a0,a1,(.bool false),(I 0)])
 | _,_=>False
def Qhr_l:List LE:=[⟨none,0,⟨[(0,.one zB),(1,.one zB),(4,.one zB),(5,.one zB)],[],[],0,29,[]⟩,fun K k v=>Qhr_r0 v K (k .ret ⟨[(4,.one (.kb false))],[],[],1,29,[]⟩) (fun x0 x1 x2 x3=>k (.exit 0) ⟨[(0,.one (.pv x0)),(1,.one (.pv x1)),(4,.one (.pv x2)),(5,.one (.pv x3))],[],[],0,29,[]⟩)⟩]
theorem Qhr_s:xaE [⟨[299],Qhq⟩] TT (kk [0,1,4,5,999999]) Qhr_l f298 Qhr_l:=⟨fun v K k h=>by
 apply xab h;exact fun v0 v1 v2 v3 h=>km h
 ,trivial⟩
theorem Qhr_w:EO ⟨[298],Qhr⟩:=oN (ec Qhq_w en) (keep:=(kk [0,1,4,5,999999])) (l:=Qhr_l) func298 Qhr_s fun av k h=>by
 unfold Qhr at h;split at h
 ·exact km h
 ·exact h.elim
def Qhs:GM
 | [.agg u0,.one a2],k=>un 2 (fun a0 a1 =>
  call Qcn [.one a2] fun o0 =>
  unP .not (atP o0 0) fun r1 =>
  xad r1
   (rt [.sc] [(I 6)] k)
   (xaj 17 a2 (I 0) fun c2 =>
   call Qhp [.agg [a0,a1],.one (atP c2 0)] fun o3 =>
   xac .lss (atP o3 0) (I 0) fun r4 =>
   xad r4
    (rt [.sc] [(I 1)] k)
    (xaj 1 a0 (atP o3 0) fun c5 =>
    call Qhr [.one (atP c5 0),.one a2] fun o6 =>
    xaj 1 a0 (atP o3 0) fun c7 =>
    call Qhr [.one a2,.one (atP c7 0)] fun o8 =>
    xad (atP o6 0)
     (xad (atP o8 0)
      (rt [.sc] [(I 2)] k)
      (xad (atP o6 0)
       (rt [.sc] [(I 3)] k)
       (xad (atP o8 0)
        (rt [.sc] [(I 4)] k)
        (rt [.sc] [(I 5)] k))))
     (xad (atP o6 0)
      (rt [.sc] [(I 3)] k)
      (xad (atP o8 0)
       (rt [.sc] [(I 4)] k)
       (rt [.sc] [(I 5)] k)))))) u0
 | _,_=>False
theorem Qhs_w:EO ⟨[239],Qhs⟩:=oNz (ec Qcn_w (ec Qhp_w (ec Qhr_w en))) func239 fun av k h=>by
 unfold Qhs at h;split at h
 ·apply xab h;clear h;intro a0 a1 h;exact km h
 ·exact h.elim
def Qht_r0 (v:List PV) (K:List PV→Prop) (x0k:Cur 92) (x1k:Cur 57) (x2k:Cur 55):Prop :=
 un 55 (fun v0 v1 v2 v3 v4 v5 v6 v7 v8 v9 v10 v11 v12 v13 v14 v15 v16 v17 v18 v19 v20 v21 v22 v23 v24 v25 v26 v27 v28 v29 v30 v31 v32 v33 v34 v35 v36 v37 v38 v39 v40 v41 v42 v43 v44 v45 v46 v47 v48 v49 v50 v51 v52 v53 v54 =>
  xaH v0 fun r0 =>
  xac .lss v3 r0 fun r1 =>
  xad r1
   (xaH v1 fun r2 =>
   xac .lss v3 r2 fun r3 =>
   xad r3
    (xaj 17 v0 v3 fun c4 =>
    xaj 17 v1 v3 fun c5 =>
    call Qhq [.agg [(atP c4 0),(atP c4 1),(atP c4 2),(atP c4 3),(atP c4 4),(atP c4 5),(atP c4 6),(atP c4 7),(atP c4 8),(atP c4 9),(atP c4 10),(atP c4 11),(atP c4 12),(atP c4 13),(atP c4 14),(atP c4 15)],.agg [(atP c5 0),(atP c5 1),(atP c5 2),(atP c5 3),(atP c5 4),(atP c5 5),(atP c5 6),(atP c5 7),(atP c5 8),(atP c5 9),(atP c5 10),(atP c5 11),(atP c5 12),(atP c5 13),(atP c5 14),(atP c5 15)]] fun o6 =>
    xad (atP o6 0)
     (xac .add v3 (I 1) fun r7 =>
     K [v0,v1,v2,r7,v4,v5,v6,v7,v8,v9,v10,v11,v12,v13,v14,v15,v16,v17,v18,v19,v20,v21,v22,v23,v24,v25,v26,v27,v28,v29,v30,v31,v32,v33,v34,v35,v36,v37,v38,v39,v40,v41,v42,v43,v44,v45,v46,v47,v48,v49,v50,v51,v52,v53,v54])
     (x0k v0 v1 v2 v3 r2 r3 (atP c4 0) (atP c4 1) (atP c4 2) (atP c4 3) (atP c4 4) (atP c4 5) (atP c4 6) (atP c4 7) (atP c4 8) (atP c4 9) (atP c4 10) (atP c4 11) (atP c4 12) (atP c4 13) (atP c4 14) (atP c4 15) (atP c4 16) (atP c5 0) (atP c5 1) (atP c5 2) (atP c5 3) (atP c5 4) (atP c5 5) (atP c5 6) (atP c5 7) (atP c5 8) (atP c5 9) (atP c5 10) (atP c5 11) (atP c5 12) (atP c5 13) (atP c5 14) (atP c5 15) (atP c5 16) (atP o6 0) v4 v5 v6 v7 v8 v9 v10 v11 v12 v13 v14 v15 v16 v17 v18 v19 v20 v21 v22 v23 v24 v25 v26 v27 v28 v29 v30 v31 v32 v33 v34 v35 v36 v37 v38 v39 v40 v41 v42 v43 v44 v45 v46 v47 v48 v49 v50 v51 v52 v53 v54))
    (x1k v0 v1 v2 v3 r2 r3 v4 v5 v6 v7 v8 v9 v10 v11 v12 v13 v14 v15 v16 v17 v18 v19 v20 v21 v22 v23 v24 v25 v26 v27 v28 v29 v30 v31 v32 v33 v34 v35 v36 v37 v38 v39 v40 v41 v42 v43 v44 v45 v46 v47 v48 v49 v50 v51 v52 v53 v54))
   (x2k v0 v1 v2 v3 v4 v5 v6 v7 v8 v9 v10 v11 v12 v13 v14 v15 v16 v17 v18 v19 v20 v21 v22 v23 v24 v25 v26 v27 v28 v29 v30 v31 v32 v33 v34 v35 v36 v37 v38 v39 v40 v41 v42 v43 v44 v45 v46 v47 v48 v49 v50 v51 v52 v53 v54)) v
def Qht:GM
 | [.one a0,.one a1],k =>
  call Qcn [.one a0] fun o0 =>
  unP .not (atP o0 0) fun r1 =>
  xad r1
   (rt g3 [(I 0),(I 0),(I 0),(I 0),(I 0),(I 0),(I 0),(I 0),(.list 1 []),(I 0),(.list 1 []),(I 0),(I 0),(.list 1 []),(I 0),(.bool false),(.list 2 []),(I 0),(I 0),(I 0),(I 0),(I 0),(I 0),(I 0),(I 0),(.list 1 []),(I 0),(.list 1 []),(I 0),(I 0),(.list 1 []),(I 0),(.bool false),(.list 2 []),(I 0),(I 0),(I 0),(I 0),(I 0),(I 0),(I 0),(I 0),(.list 1 []),(I 0),(.list 1 []),(I 0),(I 0),(.list 1 []),(I 0),(.bool false),(.list 2 []),(.bool false)] k)
   (call Qcn [.one a1] fun o2 =>
   unP .not (atP o2 0) fun r3 =>
   xad r3
    (rt g3 [(I 0),(I 0),(I 0),(I 0),(I 0),(I 0),(I 0),(I 0),(.list 1 []),(I 0),(.list 1 []),(I 0),(I 0),(.list 1 []),(I 0),(.bool false),(.list 2 []),(I 0),(I 0),(I 0),(I 0),(I 0),(I 0),(I 0),(I 0),(.list 1 []),(I 0),(.list 1 []),(I 0),(I 0),(.list 1 []),(I 0),(.bool false),(.list 2 []),(I 0),(I 0),(I 0),(I 0),(I 0),(I 0),(I 0),(I 0),(.list 1 []),(I 0),(.list 1 []),(I 0),(I 0),(.list 1 []),(I 0),(.bool false),(.list 2 []),(.bool false)] k)
    (xaj 17 a0 (I 0) fun c4 =>
    xaj 17 a1 (I 0) fun c5 =>
    xac .neq (atP c4 0) (atP c5 0) fun r6 =>
    xad r6
     (rt g3 [(I 0),(I 0),(I 0),(I 0),(I 0),(I 0),(I 0),(I 0),(.list 1 []),(I 0),(.list 1 []),(I 0),(I 0),(.list 1 []),(I 0),(.bool false),(.list 2 []),(I 0),(I 0),(I 0),(I 0),(I 0),(I 0),(I 0),(I 0),(.list 1 []),(I 0),(.list 1 []),(I 0),(I 0),(.list 1 []),(I 0),(.bool false),(.list 2 []),(I 0),(I 0),(I 0),(I 0),(I 0),(I 0),(I 0),(I 0),(.list 1 []),(I 0),(.list 1 []),(I 0),(I 0),(.list 1 []),(I 0),(.bool false),(.list 2 []),(.bool false)] k)
     (call Qhr [.one a0,.one a1] fun o7 =>
     xad (atP o7 0)
      (rt g3 [(I 0),(I 0),(I 0),(I 0),(I 0),(I 0),(I 0),(I 0),(.list 1 []),(I 0),(.list 1 []),(I 0),(I 0),(.list 1 []),(I 0),(.bool false),(.list 2 []),(I 0),(I 0),(I 0),(I 0),(I 0),(I 0),(I 0),(I 0),(.list 1 []),(I 0),(.list 1 []),(I 0),(I 0),(.list 1 []),(I 0),(.bool false),(.list 2 []),(I 0),(I 0),(I 0),(I 0),(I 0),(I 0),(I 0),(I 0),(.list 1 []),(I 0),(.list 1 []),(I 0),(I 0),(.list 1 []),(I 0),(.bool false),(.list 2 []),(.bool false)] k)
      (call Qhr [.one a1,.one a0] fun o8 =>
      xad (atP o8 0)
       (rt g3 [(I 0),(I 0),(I 0),(I 0),(I 0),(I 0),(I 0),(I 0),(.list 1 []),(I 0),(.list 1 []),(I 0),(I 0),(.list 1 []),(I 0),(.bool false),(.list 2 []),(I 0),(I 0),(I 0),(I 0),(I 0),(I 0),(I 0),(I 0),(.list 1 []),(I 0),(.list 1 []),(I 0),(I 0),(.list 1 []),(I 0),(.bool false),(.list 2 []),(I 0),(I 0),(I 0),(I 0),(I 0),(I 0),(I 0),(I 0),(.list 1 []),(I 0),(.list 1 []),(I 0),(I 0),(.list 1 []),(I 0),(.bool false),(.list 2 []),(.bool false)] k)
       (lp (fun L w=>Qht_r0 w L
        (fun q9 q10 q11 q12 q13 q14 q15 q16 q17 q18 q19 q20 q21 q22 q23 q24 q25 q26 q27 q28 q29 q30 q31 q32 q33 q34 q35 q36 q37 q38 q39 q40 q41 q42 q43 q44 q45 q46 q47 q48 q49 q50 q51 q52 q53 q54 q55 q56 q57 q58 q59 q60 q61 q62 q63 q64 q65 q66 q67 q68 q69 q70 q71 q72 q73 q74 q75 q76 q77 q78 q79 q80 q81 q82 q83 q84 q85 q86 q87 q88 q89 q90 q91 q92 q93 q94 q95 q96 q97 q98 q99 q100=>xaj 17 q9 q12 fun c101 =>
         call Qbe [.agg [(atP c101 0),(atP c101 1),(atP c101 2),(atP c101 3),(atP c101 4),(atP c101 5),(atP c101 6),(atP c101 7),(atP c101 8),(atP c101 9),(atP c101 10),(atP c101 11),(atP c101 12),(atP c101 13),(atP c101 14),(atP c101 15),(atP c101 16)]] fun o102 =>
         xaj 17 q10 q12 fun c103 =>
         call Qbe [.agg [(atP c103 0),(atP c103 1),(atP c103 2),(atP c103 3),(atP c103 4),(atP c103 5),(atP c103 6),(atP c103 7),(atP c103 8),(atP c103 9),(atP c103 10),(atP c103 11),(atP c103 12),(atP c103 13),(atP c103 14),(atP c103 15),(atP c103 16)]] fun o104 =>
         xac .gtr q12 (I 0) fun r105 =>
         xad r105
          (xac .sub q12 (I 1) fun r106 =>
          xaj 17 q9 r106 fun c107 =>
          call Qbe [.agg [(atP c107 0),(atP c107 1),(atP c107 2),(atP c107 3),(atP c107 4),(atP c107 5),(atP c107 6),(atP c107 7),(atP c107 8),(atP c107 9),(atP c107 10),(atP c107 11),(atP c107 12),(atP c107 13),(atP c107 14),(atP c107 15),(atP c107 16)]] fun o108 =>
          rt g3 [(atP o108 0),(atP o108 1),(atP o108 2),(atP o108 3),(atP o108 4),(atP o108 5),(atP o108 6),(atP o108 7),(atP o108 8),(atP o108 9),(atP o108 10),(atP o108 11),(atP o108 12),(atP o108 13),(atP o108 14),(atP o108 15),(atP o108 16),(atP o102 0),(atP o102 1),(atP o102 2),(atP o102 3),(atP o102 4),(atP o102 5),(atP o102 6),(atP o102 7),(atP o102 8),(atP o102 9),(atP o102 10),(atP o102 11),(atP o102 12),(atP o102 13),(atP o102 14),(atP o102 15),(atP o102 16),(atP o104 0),(atP o104 1),(atP o104 2),(atP o104 3),(atP o104 4),(atP o104 5),(atP o104 6),(atP o104 7),(atP o104 8),(atP o104 9),(atP o104 10),(atP o104 11),(atP o104 12),(atP o104 13),(atP o104 14),(atP o104 15),(atP o104 16),(.bool true)] k)
          (rt g3 [(I 0),(I 0),(I 0),(I 0),(I 0),(I 0),(I 0),(I 0),(.list 1 []),(I 0),(.list 1 []),(I 0),(I 0),(.list 1 []),(I 0),(.bool false),(.list 2 []),(atP o102 0),(atP o102 1),(atP o102 2),(atP o102 3),(atP o102 4),(atP o102 5),(atP o102 6),(atP o102 7),(atP o102 8),(atP o102 9),(atP o102 10),(atP o102 11),(atP o102 12),(atP o102 13),(atP o102 14),(atP o102 15),(atP o102 16),(atP o104 0),(atP o104 1),(atP o104 2),(atP o104 3),(atP o104 4),(atP o104 5),(atP o104 6),(atP o104 7),(atP o104 8),(atP o104 9),(atP o104 10),(atP o104 11),(atP o104 12),(atP o104 13),(atP o104 14),(atP o104 15),(atP o104 16),(.bool true)] k))
        (fun q109 q110 q111 q112 q113 q114 q115 q116 q117 q118 q119 q120 q121 q122 q123 q124 q125 q126 q127 q128 q129 q130 q131 q132 q133 q134 q135 q136 q137 q138 q139 q140 q141 q142 q143 q144 q145 q146 q147 q148 q149 q150 q151 q152 q153 q154 q155 q156 q157 q158 q159 q160 q161 q162 q163 q164 q165=>xaj 17 q109 q112 fun c166 =>
         call Qbe [.agg [(atP c166 0),(atP c166 1),(atP c166 2),(atP c166 3),(atP c166 4),(atP c166 5),(atP c166 6),(atP c166 7),(atP c166 8),(atP c166 9),(atP c166 10),(atP c166 11),(atP c166 12),(atP c166 13),(atP c166 14),(atP c166 15),(atP c166 16)]] fun o167 =>
         xaj 17 q110 q112 fun c168 =>
         call Qbe [.agg [(atP c168 0),(atP c168 1),(atP c168 2),(atP c168 3),(atP c168 4),(atP c168 5),(atP c168 6),(atP c168 7),(atP c168 8),(atP c168 9),(atP c168 10),(atP c168 11),(atP c168 12),(atP c168 13),(atP c168 14),(atP c168 15),(atP c168 16)]] fun o169 =>
         xac .gtr q112 (I 0) fun r170 =>
         xad r170
          (xac .sub q112 (I 1) fun r171 =>
          xaj 17 q109 r171 fun c172 =>
          call Qbe [.agg [(atP c172 0),(atP c172 1),(atP c172 2),(atP c172 3),(atP c172 4),(atP c172 5),(atP c172 6),(atP c172 7),(atP c172 8),(atP c172 9),(atP c172 10),(atP c172 11),(atP c172 12),(atP c172 13),(atP c172 14),(atP c172 15),(atP c172 16)]] fun o173 =>
          rt g3 [(atP o173 0),(atP o173 1),(atP o173 2),(atP o173 3),(atP o173 4),(atP o173 5),(atP o173 6),(atP o173 7),(atP o173 8),(atP o173 9),(atP o173 10),(atP o173 11),(atP o173 12),(atP o173 13),(atP o173 14),(atP o173 15),(atP o173 16),(atP o167 0),(atP o167 1),(atP o167 2),(atP o167 3),(atP o167 4),(atP o167 5),(atP o167 6),(atP o167 7),(atP o167 8),(atP o167 9),(atP o167 10),(atP o167 11),(atP o167 12),(atP o167 13),(atP o167 14),(atP o167 15),(atP o167 16),(atP o169 0),(atP o169 1),(atP o169 2),(atP o169 3),(atP o169 4),(atP o169 5),(atP o169 6),(atP o169 7),(atP o169 8),(atP o169 9),(atP o169 10),(atP o169 11),(atP o169 12),(atP o169 13),(atP o169 14),(atP o169 15),(atP o169 16),(.bool true)] k)
          (rt g3 [(I 0),(I 0),(I 0),(I 0),(I 0),(I 0),(I 0),(I 0),(.list 1 []),(I 0),(.list 1 []),(I 0),(I 0),(.list 1 []),(I 0),(.bool false),(.list 2 []),(atP o167 0),(atP o167 1),(atP o167 2),(atP o167 3),(atP o167 4),(atP o167 5),(atP o167 6),(atP o167 7),(atP o167 8),(atP o167 9),(atP o167 10),(atP o167 11),(atP o167 12),(atP o167 13),(atP o167 14),(atP o167 15),(atP o167 16),(atP o169 0),(atP o169 1),(atP o169 2),(atP o169 3),(atP o169 4),(atP o169 5),(atP o169 6),(atP o169 7),(atP o169 8),(atP o169 9),(atP o169 10),(atP o169 11),(atP o169 12),(atP o169 13),(atP o169 14),(atP o169 15),(atP o169 16),(.bool true)] k))
        (fun q174 q175 q176 q177 q178 q179 q180 q181 q182 q183 q184 q185 q186 q187 q188 q189 q190 q191 q192 q193 q194 q195 q196 q197 q198 q199 q200 q201 q202 q203 q204 q205 q206 q207 q208 q209 q210 q211 q212 q213 q214 q215 q216 q217 q218 q219 q220 q221 q222 q223 q224 q225 q226 q227 q228=>xaj 17 q174 q177 fun c229 =>
         call Qbe [.agg [(atP c229 0),(atP c229 1),(atP c229 2),(atP c229 3),(atP c229 4),(atP c229 5),(atP c229 6),(atP c229 7),(atP c229 8),(atP c229 9),(atP c229 10),(atP c229 11),(atP c229 12),(atP c229 13),(atP c229 14),(atP c229 15),(atP c229 16)]] fun o230 =>
         xaj 17 q175 q177 fun c231 =>
         call Qbe [.agg [(atP c231 0),(atP c231 1),(atP c231 2),(atP c231 3),(atP c231 4),(atP c231 5),(atP c231 6),(atP c231 7),(atP c231 8),(atP c231 9),(atP c231 10),(atP c231 11),(atP c231 12),(atP c231 13),(atP c231 14),(atP c231 15),(atP c231 16)]] fun o232 =>
         xac .gtr q177 (I 0) fun r233 =>
         xad r233
          (xac .sub q177 (I 1) fun r234 =>
          xaj 17 q174 r234 fun c235 =>
          call Qbe [.agg [(atP c235 0),(atP c235 1),(atP c235 2),(atP c235 3),(atP c235 4),(atP c235 5),(atP c235 6),(atP c235 7),(atP c235 8),(atP c235 9),(atP c235 10),(atP c235 11),(atP c235 12),(atP c235 13),(atP c235 14),(atP c235 15),(atP c235 16)]] fun o236 =>
          rt g3 [(atP o236 0),(atP o236 1),(atP o236 2),(atP o236 3),(atP o236 4),(atP o236 5),(atP o236 6),(atP o236 7),(atP o236 8),(atP o236 9),(atP o236 10),(atP o236 11),(atP o236 12),(atP o236 13),(atP o236 14),(atP o236 15),(atP o236 16),(atP o230 0),(atP o230 1),(atP o230 2),(atP o230 3),(atP o230 4),(atP o230 5),(atP o230 6),(atP o230 7),(atP o230 8),(atP o230 9),(atP o230 10),(atP o230 11),(atP o230 12),(atP o230 13),(atP o230 14),(atP o230 15),(atP o230 16),(atP o232 0),(atP o232 1),(atP o232 2),(atP o232 3),(atP o232 4),(atP o232 5),(atP o232 6),(atP o232 7),(atP o232 8),(atP o232 9),(atP o232 10),(atP o232 11),(atP o232 12),(atP o232 13),(atP o232 14),(atP o232 15),(atP o232 16),(.bool true)] k)
          (rt g3 [(I 0),(I 0),(I 0),(I 0),(I 0),(I 0),(I 0),(I 0),(.list 1 []),(I 0),(.list 1 []),(I 0),(I 0),(.list 1 []),(I 0),(.bool false),(.list 2 []),(atP o230 0),(atP o230 1),(atP o230 2),(atP o230 3),(atP o230 4),(atP o230 5),(atP o230 6),(atP o230 7),(atP o230 8),(atP o230 9),(atP o230 10),(atP o230 11),(atP o230 12),(atP o230 13),(atP o230 14),(atP o230 15),(atP o230 16),(atP o232 0),(atP o232 1),(atP o232 2),(atP o232 3),(atP o232 4),(atP o232 5),(atP o232 6),(atP o232 7),(atP o232 8),(atP o232 9),(atP o232 10),(atP o232 11),(atP o232 12),(atP o232 13),(atP o232 14),(atP o232 15),(atP o232 16),(.bool true)] k))) [a0,a1,(.bool false),(I 0),(I 0),(I 0),(I 0),(I 0),(I 0),(I 0),(I 0),(I 0),(I 0),(I 0),(I 0),(I 0),(.bool false),(I 0),(I 0),(I 0),(I 0),(I 0),(I 0),(I 0),(I 0),(I 0),(I 0),(I 0),(I 0),(.bool false),(I 0),(I 0),(I 0),(I 0),(I 0),(I 0),(I 0),(I 0),(I 0),(I 0),(I 0),(I 0),(.bool false),(.list 2 []),(.list 1 []),(.list 1 []),(.list 1 []),(.list 2 []),(.list 1 []),(.list 1 []),(.list 1 []),(.list 2 []),(.list 1 []),(.list 1 []),(.list 1 [])])))))
 | _,_=>False
def Qht_l:List LE:=[⟨none,0,⟨[(0,.one zB),(1,.one zB),(4,.one (.ptr 0 0)),(5,.one zB),(6,.one zB)],[(0,[zB,zB,zB,zB,zB,zB,zB,zB,.own 5,zB,.own 6,zB,zB,.own 7,zB,zB,.own 8,zB,zB,zB,zB,zB,zB,zB,zB,.own 9,zB,.own 10,zB,zB,.own 11,zB,zB,.own 12,zB,zB,zB,zB,zB,zB,zB,zB,.own 13,zB,.own 14,zB,zB,.own 15,zB,zB,.own 16])],[(16,⟨.deep,317,2,(.bool false)⟩),(15,⟨.deep,3,1,(.bool false)⟩),(14,⟨.deep,3,1,(.bool false)⟩),(13,⟨.deep,3,1,(.bool false)⟩),(12,⟨.deep,317,2,(.bool false)⟩),(11,⟨.deep,3,1,(.bool false)⟩),(10,⟨.deep,3,1,(.bool false)⟩),(9,⟨.deep,3,1,(.bool false)⟩),(8,⟨.deep,317,2,(.bool false)⟩),(7,⟨.deep,3,1,(.bool false)⟩),(6,⟨.deep,3,1,(.bool false)⟩),(5,⟨.deep,3,1,(.bool false)⟩)],17,86,[]⟩,fun K k v=>Qht_r0 v K (fun x0 x1 x2 x3 x4 x5 x6 x7 x8 x9 x10 x11 x12 x13 x14 x15 x16 x17 x18 x19 x20 x21 x22 x23 x24 x25 x26 x27 x28 x29 x30 x31 x32 x33 x34 x35 x36 x37 x38 x39 x40 x41 x42 x43 x44 x45 x46 x47 x48 x49 x50 x51 x52 x53 x54 x55 x56 x57 x58 x59 x60 x61 x62 x63 x64 x65 x66 x67 x68 x69 x70 x71 x72 x73 x74 x75 x76 x77 x78 x79 x80 x81 x82 x83 x84 x85 x86 x87 x88 x89 x90 x91=>k (.exit 0) ⟨[(0,.one (.pv x0)),(1,.one (.pv x1)),(4,.one (.ptr 0 0)),(5,.one (.pv x2)),(6,.one (.pv x3)),(45,.one (.pv x3)),(46,.one (.pv x1)),(47,.one (.pv x4)),(48,.one (.pv x5)),(51,.one (.pv x0)),(52,.one (.pv x3)),(53,.one (.sptr [x6,x7,x8,x9,x10,x11,x12,x13,x14,x15,x16,x17,x18,x19,x20,x21,x22])),(54,.one (.sptr [x6,x7,x8,x9,x10,x11,x12,x13,x14,x15,x16,x17,x18,x19,x20,x21,x22])),(55,.agg [.pv x6,.pv x7,.pv x8,.pv x9,.pv x10,.pv x11,.pv x12,.pv x13,.pv x14,.pv x15,.pv x16,.pv x17,.pv x18,.pv x19,.pv x20,.pv x21]),(56,.one (.pv x1)),(57,.one (.pv x3)),(58,.one (.sptr [x23,x24,x25,x26,x27,x28,x29,x30,x31,x32,x33,x34,x35,x36,x37,x38,x39])),(59,.one (.sptr [x23,x24,x25,x26,x27,x28,x29,x30,x31,x32,x33,x34,x35,x36,x37,x38,x39])),(60,.agg [.pv x23,.pv x24,.pv x25,.pv x26,.pv x27,.pv x28,.pv x29,.pv x30,.pv x31,.pv x32,.pv x33,.pv x34,.pv x35,.pv x36,.pv x37,.pv x38]),(61,.one (.pv x40))],[(0,[.pv x41,.pv x42,.pv x43,.pv x44,.pv x45,.pv x46,.pv x47,.pv x48,.own 5,.pv x49,.own 6,.pv x50,.pv x51,.own 7,.pv x52,.pv x53,.own 8,.pv x54,.pv x55,.pv x56,.pv x57,.pv x58,.pv x59,.pv x60,.pv x61,.own 9,.pv x62,.own 10,.pv x63,.pv x64,.own 11,.pv x65,.pv x66,.own 12,.pv x67,.pv x68,.pv x69,.pv x70,.pv x71,.pv x72,.pv x73,.pv x74,.own 13,.pv x75,.own 14,.pv x76,.pv x77,.own 15,.pv x78,.pv x79,.own 16])],[(16,⟨.deep,317,2,x80⟩),(15,⟨.deep,3,1,x81⟩),(14,⟨.deep,3,1,x82⟩),(13,⟨.deep,3,1,x83⟩),(12,⟨.deep,317,2,x84⟩),(11,⟨.deep,3,1,x85⟩),(10,⟨.deep,3,1,x86⟩),(9,⟨.deep,3,1,x87⟩),(8,⟨.deep,317,2,x88⟩),(7,⟨.deep,3,1,x89⟩),(6,⟨.deep,3,1,x90⟩),(5,⟨.deep,3,1,x91⟩)],18,86,[]⟩) (fun x0 x1 x2 x3 x4 x5 x6 x7 x8 x9 x10 x11 x12 x13 x14 x15 x16 x17 x18 x19 x20 x21 x22 x23 x24 x25 x26 x27 x28 x29 x30 x31 x32 x33 x34 x35 x36 x37 x38 x39 x40 x41 x42 x43 x44 x45 x46 x47 x48 x49 x50 x51 x52 x53 x54 x55 x56=>k (.exit 0) ⟨[(0,.one (.pv x0)),(1,.one (.pv x1)),(4,.one (.ptr 0 0)),(5,.one (.pv x2)),(6,.one (.pv x3)),(45,.one (.pv x3)),(46,.one (.pv x1)),(47,.one (.pv x4)),(48,.one (.pv x5)),(51,.undef),(52,.undef),(53,.undef),(54,.undef),(55,.undef),(56,.undef),(57,.undef),(58,.undef),(59,.undef),(60,.undef),(61,.undef)],[(0,[.pv x6,.pv x7,.pv x8,.pv x9,.pv x10,.pv x11,.pv x12,.pv x13,.own 5,.pv x14,.own 6,.pv x15,.pv x16,.own 7,.pv x17,.pv x18,.own 8,.pv x19,.pv x20,.pv x21,.pv x22,.pv x23,.pv x24,.pv x25,.pv x26,.own 9,.pv x27,.own 10,.pv x28,.pv x29,.own 11,.pv x30,.pv x31,.own 12,.pv x32,.pv x33,.pv x34,.pv x35,.pv x36,.pv x37,.pv x38,.pv x39,.own 13,.pv x40,.own 14,.pv x41,.pv x42,.own 15,.pv x43,.pv x44,.own 16])],[(16,⟨.deep,317,2,x45⟩),(15,⟨.deep,3,1,x46⟩),(14,⟨.deep,3,1,x47⟩),(13,⟨.deep,3,1,x48⟩),(12,⟨.deep,317,2,x49⟩),(11,⟨.deep,3,1,x50⟩),(10,⟨.deep,3,1,x51⟩),(9,⟨.deep,3,1,x52⟩),(8,⟨.deep,317,2,x53⟩),(7,⟨.deep,3,1,x54⟩),(6,⟨.deep,3,1,x55⟩),(5,⟨.deep,3,1,x56⟩)],17,86,[]⟩) (fun x0 x1 x2 x3 x4 x5 x6 x7 x8 x9 x10 x11 x12 x13 x14 x15 x16 x17 x18 x19 x20 x21 x22 x23 x24 x25 x26 x27 x28 x29 x30 x31 x32 x33 x34 x35 x36 x37 x38 x39 x40 x41 x42 x43 x44 x45 x46 x47 x48 x49 x50 x51 x52 x53 x54=>k (.exit 0) ⟨[(0,.one (.pv x0)),(1,.one (.pv x1)),(4,.one (.ptr 0 0)),(5,.one (.pv x2)),(6,.one (.pv x3)),(45,.undef),(46,.undef),(47,.undef),(48,.undef),(51,.undef),(52,.undef),(53,.undef),(54,.undef),(55,.undef),(56,.undef),(57,.undef),(58,.undef),(59,.undef),(60,.undef),(61,.undef)],[(0,[.pv x4,.pv x5,.pv x6,.pv x7,.pv x8,.pv x9,.pv x10,.pv x11,.own 5,.pv x12,.own 6,.pv x13,.pv x14,.own 7,.pv x15,.pv x16,.own 8,.pv x17,.pv x18,.pv x19,.pv x20,.pv x21,.pv x22,.pv x23,.pv x24,.own 9,.pv x25,.own 10,.pv x26,.pv x27,.own 11,.pv x28,.pv x29,.own 12,.pv x30,.pv x31,.pv x32,.pv x33,.pv x34,.pv x35,.pv x36,.pv x37,.own 13,.pv x38,.own 14,.pv x39,.pv x40,.own 15,.pv x41,.pv x42,.own 16])],[(16,⟨.deep,317,2,x43⟩),(15,⟨.deep,3,1,x44⟩),(14,⟨.deep,3,1,x45⟩),(13,⟨.deep,3,1,x46⟩),(12,⟨.deep,317,2,x47⟩),(11,⟨.deep,3,1,x48⟩),(10,⟨.deep,3,1,x49⟩),(9,⟨.deep,3,1,x50⟩),(8,⟨.deep,317,2,x51⟩),(7,⟨.deep,3,1,x52⟩),(6,⟨.deep,3,1,x53⟩),(5,⟨.deep,3,1,x54⟩)],17,86,[]⟩)⟩]
theorem Qht_s:xaE [⟨[237],Qcn⟩,⟨[298],Qhr⟩,⟨[299],Qhq⟩,⟨[256],Qbe⟩] TT (kk [0,1,4,5,6,45,46,47,48,51,52,53,54,55,56,57,58,59,60,61,999999]) Qht_l f241 Qht_l:=⟨fun v K k h=>by
 apply xab h;(repeat intro _);rename_i h;exact km h
 ,trivial⟩
theorem Qht_w:EO ⟨[241],Qht⟩:=oN (ec Qcn_w (ec Qhr_w (ec Qhq_w (ec Qbe_w en)))) (keep:=(kk [0,1,4,5,6,45,46,47,48,51,52,53,54,55,56,57,58,59,60,61,999999])) (l:=Qht_l) func241 Qht_s fun av k h=>by
 unfold Qht at h;split at h
 ·exact km h
 ·exact h.elim
def Qhu:GM
 | [.agg u0,.one a2],k=>un 2 (fun a0 a1 =>
  call Qbh [.agg [a0,a1]] fun o0 =>
  call Qhs [.agg [a0,a1],.one a2] fun o1 =>
  xac .eql (atP o1 0) (I 1) fun r2 =>
  xad r2
   (xaH a0 fun r3 =>
   xac .geq r3 (I 8) fun r4 =>
   xad r4
    (rt [.pv,.pv,.sc] [(atP o0 0),(atP o0 1),(I 6)] k)
    (call Qbf [.one a2] fun o5 =>
    (1=1)∧(1≤16777216)∧(1=1)∧(0=0)∧(1=1)∧xbh 1 (atP o0 0) (.list 1 [[(atP o5 0)]]) fun r6 =>
    rt [.pv,.pv,.sc] [r6,(atP o0 1),(atP o1 0)] k))
   (xac .eql (atP o1 0) (I 3) fun r7 =>
   xad r7
    (xaj 17 a2 (I 0) fun c8 =>
    call Qhp [.agg [a0,a1],.one (atP c8 0)] fun o9 =>
    call Qbf [.one a2] fun o10 =>
    xc6 1 (atP o0 0) (atP o9 0) fun n11 =>
    xl5 (atP o0 0) n11 0 [(atP o10 0)] fun r12 =>
    rt [.pv,.pv,.sc] [r12,(atP o0 1),(atP o1 0)] k)
    (xac .eql (atP o1 0) (I 5) fun r13 =>
    xad r13
     (xaj 17 a2 (I 0) fun c14 =>
     call Qhp [.agg [a0,a1],.one (atP c14 0)] fun o15 =>
     xaj 1 a0 (atP o15 0) fun c16 =>
     call Qht [.one (atP c16 0),.one a2] fun o17 =>
     xad (atP o17 51)
      (xaH a1 fun r18 =>
      xac .lss r18 (I 8) fun r19 =>
      xad r19
       ((1=1)∧(51≤16777216)∧(51=51)∧(0=0)∧(51=51)∧xbh 51 (atP o0 1) (.list 51 [(s51 o17)]) fun r20 =>
       rt [.pv,.pv,.sc] [(atP o0 0),r20,(atP o1 0)] k)
       (rt [.pv,.pv,.sc] [(atP o0 0),(atP o0 1),(atP o1 0)] k))
      (rt [.pv,.pv,.sc] [(atP o0 0),(atP o0 1),(atP o1 0)] k))
     (rt [.pv,.pv,.sc] [(atP o0 0),(atP o0 1),(atP o1 0)] k)))) u0
 | _,_=>False
theorem Qhu_w:EO ⟨[172],Qhu⟩:=oNz (ec Qbh_w (ec Qhs_w (ec Qbf_w (ec Qhp_w (ec Qht_w en))))) func172 fun av k h=>by
 unfold Qhu at h;split at h
 ·apply xab h;clear h;intro a0 a1 h;exact km h
 ·exact h.elim
def Qhv:GM
 | [.agg u0,.one a16],k=>un 16 (fun a0 a1 a2 a3 a4 a5 a6 a7 a8 a9 a10 a11 a12 a13 a14 a15 =>
  call Qbo [.one a16,.one a3,.one a4] fun o0 =>
  rt [.sc] [(atP o0 0)] k) u0
 | _,_=>False
theorem Qhv_w:EO ⟨[242],Qhv⟩:=oNz (ec Qbo_w en) func242 fun av k h=>by
 unfold Qhv at h;split at h
 ·apply xab h;clear h;(repeat intro _);rename_i h;exact km h
 ·exact h.elim
def Qhw_r0 (v:List PV) (K:List PV→Prop) (x0k:Prop) (x1k:Cur 7):Prop :=
 un 7 (fun v0 v1 v2 v3 v4 v5 v6 =>
  xac .gtr v2 (I 1) fun r0 =>
  xad r0
   (xac .rem v1 (I 2) fun r1 =>
   xac .eql r1 (I 1) fun r2 =>
   xad r2
    (xaH v3 fun r3 =>
    xac .geq v6 r3 fun r4 =>
    xad r4
     (x0k)
     (xac .rem v1 (I 2) fun r5 =>
     xac .eql r5 (I 1) fun r6 =>
     xad r6
      (xaj 1 v3 v6 fun c7 =>
      call Qcz [.one (atP c7 0),.one v0] fun o8 =>
      xac .add v6 (I 1) fun r9 =>
      xac .quo v1 (I 2) fun r10 =>
      xac .add v2 (I 1) fun r11 =>
      xac .quo r11 (I 2) fun r12 =>
      K [(atP o8 0),r10,r12,v3,v4,v5,r9])
      (xaj 1 v3 v6 fun c13 =>
      call Qcz [.one v0,.one (atP c13 0)] fun o14 =>
      xac .add v6 (I 1) fun r15 =>
      xac .quo v1 (I 2) fun r16 =>
      xac .add v2 (I 1) fun r17 =>
      xac .quo r17 (I 2) fun r18 =>
      K [(atP o14 0),r16,r18,v3,v4,v5,r15])))
    (xac .add v1 (I 1) fun r19 =>
    xac .lss r19 v2 fun r20 =>
    xad r20
     (xaH v3 fun r21 =>
     xac .geq v6 r21 fun r22 =>
     xad r22
      (x0k)
      (xac .rem v1 (I 2) fun r23 =>
      xac .eql r23 (I 1) fun r24 =>
      xad r24
       (xaj 1 v3 v6 fun c25 =>
       call Qcz [.one (atP c25 0),.one v0] fun o26 =>
       xac .add v6 (I 1) fun r27 =>
       xac .quo v1 (I 2) fun r28 =>
       xac .add v2 (I 1) fun r29 =>
       xac .quo r29 (I 2) fun r30 =>
       K [(atP o26 0),r28,r30,v3,v4,v5,r27])
       (xaj 1 v3 v6 fun c31 =>
       call Qcz [.one v0,.one (atP c31 0)] fun o32 =>
       xac .add v6 (I 1) fun r33 =>
       xac .quo v1 (I 2) fun r34 =>
       xac .add v2 (I 1) fun r35 =>
       xac .quo r35 (I 2) fun r36 =>
       K [(atP o32 0),r34,r36,v3,v4,v5,r33])))
     (xac .quo v1 (I 2) fun r37 =>
     xac .add v2 (I 1) fun r38 =>
     xac .quo r38 (I 2) fun r39 =>
     K [v0,r37,r39,v3,v4,v5,v6])))
   (x1k v0 v1 v2 v3 v4 v5 v6)) v
def Qhw:GM
 | [.one a0,.one a1,.one a2,.one a3],k =>
  call Qbo [.one a2,.one (I 1),.one (I 12)] fun o0 =>
  unP .not (atP o0 0) fun r1 =>
  xad r1
   (rt [.sc,.sc] [(I 0),(.bool false)] k)
   (xac .sub a2 (I 1) fun r2 =>
   call Qbo [.one a1,.one (I 0),.one r2] fun o3 =>
   unP .not (atP o3 0) fun r4 =>
   xad r4
    (rt [.sc,.sc] [(I 0),(.bool false)] k)
    (lp (fun L w=>Qhw_r0 w L
     (rt [.sc,.sc] [(I 0),(.bool false)] k)
     (fun q40 q41 q42 q43 q44 q45 q46=>xaH q43 fun r47 =>
      xac .neq q46 r47 fun r48 =>
      xad r48
       (rt [.sc,.sc] [(I 0),(.bool false)] k)
       (rt [.sc,.sc] [q40,(.bool true)] k))) [a0,a1,a2,a3,(I 0),(.bool false),(I 0)]))
 | _,_=>False
def Qhw_l:List LE:=[⟨none,0,⟨[(0,.one zB),(1,.one zB),(2,.one zB),(3,.one zB),(8,.one zB),(9,.one zB),(10,.one zB)],[],[],2,63,[]⟩,fun K k v=>Qhw_r0 v K (k .ret ⟨[(8,.one (.pv (I 0))),(9,.one (.kb false))],[],[],2,63,[]⟩) (fun x0 x1 x2 x3 x4 x5 x6=>k (.exit 0) ⟨[(0,.one (.pv x0)),(1,.one (.pv x1)),(2,.one (.pv x2)),(3,.one (.pv x3)),(8,.one (.pv x4)),(9,.one (.pv x5)),(10,.one (.pv x6))],[],[],2,63,[]⟩)⟩]
theorem Qhw_s:xaE [⟨[133],Qbo⟩,⟨[398],Qcz⟩] TT (kk [0,1,2,3,8,9,10,27,28,29,30,999999]) Qhw_l f351 Qhw_l:=⟨fun v K k h=>by
 apply xab h;exact fun v0 v1 v2 v3 v4 v5 v6 h=>km h
 ,trivial⟩
theorem Qhw_w:EO ⟨[351],Qhw⟩:=oN (ec Qbo_w (ec Qcz_w en)) (keep:=(kk [0,1,2,3,8,9,10,27,28,29,30,999999])) (l:=Qhw_l) func351 Qhw_s fun av k h=>by
 unfold Qhw at h;split at h
 ·exact km h
 ·exact h.elim
def Qhx:GM
 | [.one a0,.one a1,.agg u0,.agg u1],k=>un 4 (fun a2 a3 a4 a5=>un 2 (fun a6 a7 =>
  call Qcx [.agg [a2,a3,a4,a5]] fun o0 =>
  call Qhw [.one (atP o0 0),.one a6,.one a1,.one a7] fun o1 =>
  call Qcr [.agg [a2,a3,a4,a5]] fun o2 =>
  xad (atP o2 0)
   (xad (atP o1 1)
    (call Qdc [.one a1,.one (atP o1 0)] fun o3 =>
    xac .eql (atP o3 0) a0 fun r4 =>
    rt [.sc] [r4] k)
    (rt [.sc] [(.bool false)] k))
   (rt [.sc] [(.bool false)] k)) u1) u0
 | _,_=>False
theorem Qhx_w:EO ⟨[300],Qhx⟩:=oNz (ec Qcx_w (ec Qhw_w (ec Qcr_w (ec Qdc_w en)))) func300 fun av k h=>by
 unfold Qhx at h;split at h
 ·apply xab h;clear h;intro a2 a3 a4 a5 h;apply xab h;clear h;intro a6 a7 h;exact km h
 ·exact h.elim
def Qhy_r0 (v:List PV) (K:List PV→Prop) (x0k:Prop) (x1k:Cur 4):Prop :=
 un 4 (fun v0 v1 v2 v3 =>
  xaH v0 fun r0 =>
  xac .lss v3 r0 fun r1 =>
  xad r1
   (xaj 1 v0 v3 fun c2 =>
   xaj 1 v1 v3 fun c3 =>
   xac .neq (atP c2 0) (atP c3 0) fun r4 =>
   xad r4
    (x0k)
    (xac .add v3 (I 1) fun r5 =>
    K [v0,v1,v2,r5]))
   (x1k v0 v1 v2 v3)) v
def Qhy:GM
 | [.one a0,.one a1],k =>
  xaH a0 fun r0 =>
  xaH a1 fun r1 =>
  xac .neq r0 r1 fun r2 =>
  xad r2
   (rt [.sc] [(.bool false)] k)
   (lp (fun L w=>Qhy_r0 w L
    (rt [.sc] [(.bool false)] k)
    (fun q6 q7 q8 q9=>rt [.sc] [(.bool true)] k)) [a0,a1,(.bool false),(I 0)])
 | _,_=>False
def Qhy_l:List LE:=[⟨none,0,⟨[(0,.one zB),(1,.one zB),(4,.one zB),(5,.one zB)],[],[],0,26,[]⟩,fun K k v=>Qhy_r0 v K (k .ret ⟨[(4,.one (.kb false))],[],[],0,26,[]⟩) (fun x0 x1 x2 x3=>k (.exit 0) ⟨[(0,.one (.pv x0)),(1,.one (.pv x1)),(4,.one (.pv x2)),(5,.one (.pv x3))],[],[],0,26,[]⟩)⟩]
theorem Qhy_s:xaE [] TT (kk [0,1,4,5,999999]) Qhy_l f400 Qhy_l:=⟨fun v K k h=>by
 apply xab h;exact fun v0 v1 v2 v3 h=>km h
 ,trivial⟩
theorem Qhy_w:EO ⟨[400],Qhy⟩:=oN en (keep:=(kk [0,1,4,5,999999])) (l:=Qhy_l) func400 Qhy_s fun av k h=>by
 unfold Qhy at h;split at h
 ·exact km h
 ·exact h.elim
def Qhz:GM
 | [.agg u0,.agg u1],k=>un 4 (fun a0 a1 a2 a3=>un 4 (fun a4 a5 a6 a7 =>
  xac .eql a0 a4 fun r0 =>
  xad r0
   (xac .eql a1 a5 fun r1 =>
   xad r1
    (xac .eql a2 a6 fun r2 =>
    xad r2
     (call Qhy [.one a3,.one a7] fun o3 =>
     rt [.sc] [(atP o3 0)] k)
     (rt [.sc] [(.bool false)] k))
    (rt [.sc] [(.bool false)] k))
   (rt [.sc] [(.bool false)] k)) u1) u0
 | _,_=>False
theorem Qhz_w:EO ⟨[353],Qhz⟩:=oNz (ec Qhy_w en) func353 fun av k h=>by
 unfold Qhz at h;split at h
 ·apply xab h;clear h;intro a0 a1 a2 a3 h;apply xab h;clear h;intro a4 a5 a6 a7 h;exact km h
 ·exact h.elim
def Qia:GM
 | [.agg u0,.agg u1],k=>un 2 (fun a0 a1=>un 2 (fun a2 a3 =>
  xac .eql a0 a2 fun r0 =>
  xad r0
   (call Qcf [.one a1,.one a3] fun o1 =>
   rt [.sc] [(atP o1 0)] k)
   (rt [.sc] [(.bool false)] k)) u1) u0
 | _,_=>False
theorem Qia_w:EO ⟨[354],Qia⟩:=oNz (ec Qcf_w en) func354 fun av k h=>by
 unfold Qia at h;split at h
 ·apply xab h;clear h;intro a0 a1 h;apply xab h;clear h;intro a2 a3 h;exact km h
 ·exact h.elim
def Qib:GM
 | [.agg u0,.agg u1],k=>un 13 (fun a0 a1 a2 a3 a4 a5 a6 a7 a8 a9 a10 a11 a12=>un 13 (fun a13 a14 a15 a16 a17 a18 a19 a20 a21 a22 a23 a24 a25 =>
  xac .eql a0 a13 fun r0 =>
  xad r0
   (call Qhz [.agg [a1,a2,a3,a4],.agg [a14,a15,a16,a17]] fun o1 =>
   xad (atP o1 0)
    (call Qhz [.agg [a5,a6,a7,a8],.agg [a18,a19,a20,a21]] fun o2 =>
    xad (atP o2 0)
     (call Qia [.agg [a9,a10],.agg [a22,a23]] fun o3 =>
     xad (atP o3 0)
      (call Qia [.agg [a11,a12],.agg [a24,a25]] fun o4 =>
      rt [.sc] [(atP o4 0)] k)
      (rt [.sc] [(.bool false)] k))
     (rt [.sc] [(.bool false)] k))
    (rt [.sc] [(.bool false)] k))
   (rt [.sc] [(.bool false)] k)) u1) u0
 | _,_=>False
theorem Qib_w:EO ⟨[301],Qib⟩:=oNz (ec Qhz_w (ec Qia_w en)) func301 fun av k h=>by
 unfold Qib at h;split at h
 ·apply xab h;clear h;(repeat intro _);rename_i h;apply xab h;clear h;(repeat intro _);rename_i h;exact km h
 ·exact h.elim
def Qic:GM
 | [.agg u0,.agg u1],k=>un 4 (fun a0 a1 a2 a3=>un 2 (fun a4 a5 =>
  call Qhz [.agg [a0,a1,a2,a3],.agg [(.str ⟨#[]⟩),(I 0),(I 0),(.list 1 [])]] fun o0 =>
  xad (atP o0 0)
   (call Qia [.agg [a4,a5],.agg [(I 0),(.list 1 [])]] fun o1 =>
   rt [.sc] [(atP o1 0)] k)
   (rt [.sc] [(.bool false)] k)) u1) u0
 | _,_=>False
theorem Qic_w:EO ⟨[303],Qic⟩:=oNz (ec Qhz_w (ec Qia_w en)) func303 fun av k h=>by
 unfold Qic at h;split at h
 ·apply xab h;clear h;intro a0 a1 a2 a3 h;apply xab h;clear h;intro a4 a5 h;exact km h
 ·exact h.elim
def Qid:GM
 | [.one a0,.one a1,.one a2,.agg u0],k=>un 13 (fun a3 a4 a5 a6 a7 a8 a9 a10 a11 a12 a13 a14 a15 =>
  let F1:=xac .eql a3 a1 fun r10 =>
   xad r10
   (call Qic [.agg [a8,a9,a10,a11],.agg [a14,a15]] fun o11 =>
   rt [.sc] [(atP o11 0)] k)
   (call Qhx [.one a0,.one a1,.agg [a8,a9,a10,a11],.agg [a14,a15]] fun o12 =>
   xad (atP o12 0)
   (xac .eql a14 a3 fun r13 =>
   xad r13
   (call Qcs [.one a8,.one a2] fun o14 =>
   xac .eql (atP o14 0) (I 1) fun r15 =>
   rt [.sc] [r15] k)
   (rt [.sc] [(.bool false)] k))
   (rt [.sc] [(.bool false)] k))
  let F0:=xac .eql a3 (I 0) fun r7 =>
   xad r7
   (call Qic [.agg [a4,a5,a6,a7],.agg [a12,a13]] fun o8 =>
   unP .not (atP o8 0) fun r9 =>
   xad r9
   (rt [.sc] [(.bool false)] k)
   (F1))
   (call Qhx [.one a0,.one a1,.agg [a4,a5,a6,a7],.agg [a12,a13]] fun o16 =>
   unP .not (atP o16 0) fun r17 =>
   xad r17
   (rt [.sc] [(.bool false)] k)
   (xac .sub a3 (I 1) fun r18 =>
   xac .neq a12 r18 fun r19 =>
   xad r19
   (rt [.sc] [(.bool false)] k)
   (call Qcs [.one a4,.one a2] fun o20 =>
   xac .neq (atP o20 0) (I (-1)) fun r21 =>
   xad r21
   (rt [.sc] [(.bool false)] k)
   (F1))))
  call Qcp [.one a2] fun o0 =>
  unP .not (atP o0 0) fun r1 =>
  xad r1
   (rt [.sc] [(.bool false)] k)
   (call Qbo [.one a3,.one (I 0),.one a1] fun o2 =>
   unP .not (atP o2 0) fun r3 =>
   xad r3
    (rt [.sc] [(.bool false)] k)
    (xac .eql a1 (I 0) fun r4 =>
    xad r4
     ((0=0)∧(0≤16777216)∧(4=4)∧call Qdd [.one (.list 4 [])] fun o5 =>
     xac .neq a0 (atP o5 0) fun r6 =>
     xad r6
      (rt [.sc] [(.bool false)] k)
      (F0))
     (F0)))) u0
 | _,_=>False
theorem Qid_w:EO ⟨[302],Qid⟩:=oNz (ec Qcp_w (ec Qbo_w (ec Qdd_w (ec Qic_w (ec Qhx_w (ec Qcs_w en)))))) func302 fun av k h=>by
 unfold Qid at h;split at h
 ·apply xab h;clear h;(repeat intro _);rename_i h;exact km h
 ·exact h.elim
def Qie:GM
 | [.agg u0,.one a16,.agg u1],k=>un 16 (fun a0 a1 a2 a3 a4 a5 a6 a7 a8 a9 a10 a11 a12 a13 a14 a15=>un 21 (fun a17 a18 a19 a20 a21 a22 a23 a24 a25 a26 a27 a28 a29 a30 a31 a32 a33 a34 a35 a36 a37 =>
  xad a18
   (xac .eql a19 a16 fun r0 =>
   xad r0
    (call Qhx [.one a6,.one a5,.agg [a19,a20,a21,a22],.agg [a23,a24]] fun o1 =>
    xad (atP o1 0)
     (call Qib [.agg [a25,a26,a27,a28,a29,a30,a31,a32,a33,a34,a35,a36,a37],.agg [(I 0),(.str ⟨#[]⟩),(I 0),(I 0),(.list 1 []),(.str ⟨#[]⟩),(I 0),(I 0),(.list 1 []),(I 0),(.list 1 []),(I 0),(.list 1 [])]] fun o2 =>
     rt [.sc] [(atP o2 0)] k)
     (rt [.sc] [(.bool false)] k))
    (rt [.sc] [(.bool false)] k))
   (call Qid [.one a6,.one a5,.one a16,.agg [a25,a26,a27,a28,a29,a30,a31,a32,a33,a34,a35,a36,a37]] fun o3 =>
   xad (atP o3 0)
    (call Qic [.agg [a19,a20,a21,a22],.agg [a23,a24]] fun o4 =>
    rt [.sc] [(atP o4 0)] k)
    (rt [.sc] [(.bool false)] k))) u1) u0
 | _,_=>False
theorem Qie_w:EO ⟨[243],Qie⟩:=oNz (ec Qhx_w (ec Qib_w (ec Qid_w (ec Qic_w en)))) func243 fun av k h=>by
 unfold Qie at h;split at h
 ·apply xab h;clear h;(repeat intro _);rename_i h;apply xab h;clear h;(repeat intro _);rename_i h;exact km h
 ·exact h.elim
def Qif:GM
 | [.one a0,.one a1,.agg u0,.one a23],k=>un 21 (fun a2 a3 a4 a5 a6 a7 a8 a9 a10 a11 a12 a13 a14 a15 a16 a17 a18 a19 a20 a21 a22 =>
  call Qco [.one a2] fun o0 =>
  unP .not (atP o0 16) fun r1 =>
  xad r1
   (rt [.sc] [(I 3)] k)
   (xac .neq (atP o0 0) a0 fun r2 =>
   xad r2
    (rt [.sc] [(I 2)] k)
    (call Qhv [.agg [(atP o0 0),(atP o0 1),(atP o0 2),(atP o0 3),(atP o0 4),(atP o0 5),(atP o0 6),(atP o0 7),(atP o0 8),(atP o0 9),(atP o0 10),(atP o0 11),(atP o0 12),(atP o0 13),(atP o0 14),(atP o0 15)],.one a23] fun o3 =>
    unP .not (atP o3 0) fun r4 =>
    xad r4
     (rt [.sc] [(I 4)] k)
     (xad (atP o0 15)
      (rt [.sc] [(I 5)] k)
      (call Qie [.agg [(atP o0 0),(atP o0 1),(atP o0 2),(atP o0 3),(atP o0 4),(atP o0 5),(atP o0 6),(atP o0 7),(atP o0 8),(atP o0 9),(atP o0 10),(atP o0 11),(atP o0 12),(atP o0 13),(atP o0 14),(atP o0 15)],.one a1,.agg [a2,a3,a4,a5,a6,a7,a8,a9,a10,a11,a12,a13,a14,a15,a16,a17,a18,a19,a20,a21,a22]] fun o5 =>
      unP .not (atP o5 0) fun r6 =>
      xad r6
       (rt [.sc] [(I 6)] k)
       (rt [.sc] [(I 1)] k)))))) u0
 | _,_=>False
theorem Qif_w:EO ⟨[173],Qif⟩:=oNz (ec Qco_w (ec Qhv_w (ec Qie_w en))) func173 fun av k h=>by
 unfold Qif at h;split at h
 ·apply xab h;clear h;(repeat intro _);rename_i h;exact km h
 ·exact h.elim
def Qig_r0 (v:List PV) (K:List PV→Prop) (x0k:Prop) (x1k:Cur 36):Prop :=
 un 36 (fun v0 v1 v2 v3 v4 v5 v6 v7 v8 v9 v10 v11 v12 v13 v14 v15 v16 v17 v18 v19 v20 v21 v22 v23 v24 v25 v26 v27 v28 v29 v30 v31 v32 v33 v34 v35 =>
  xaH v35 fun r0 =>
  xac .lss v1 r0 fun r1 =>
  xad r1
   (xaj 2 v35 v1 fun c2 =>
   xaj 2 v18 v1 fun c3 =>
   (xeF [.pv (I 0),.pv (I 0)] [(atP c2 0),(atP c2 1)])∧(xeF [.pv (I 0),.pv (I 0)] [(atP c3 0),(atP c3 1)])∧xsX .neq [(atP c2 0),(atP c2 1)] [(atP c3 0),(atP c3 1)] fun r4 =>
   xad r4
    (x0k)
    (xac .add v1 (I 1) fun r5 =>
    K [v0,r5,v2,v3,v4,v5,v6,v7,v8,v9,v10,v11,v12,v13,v14,v15,v16,v17,v18,v19,v20,v21,v22,v23,v24,v25,v26,v27,v28,v29,v30,v31,v32,v33,v34,v35]))
   (x1k v0 v1 v2 v3 v4 v5 v6 v7 v8 v9 v10 v11 v12 v13 v14 v15 v16 v17 v18 v19 v20 v21 v22 v23 v24 v25 v26 v27 v28 v29 v30 v31 v32 v33 v34 v35)) v
def Qig:GM
 | [.agg u0,.agg u1],k=>un 17 (fun a0 a1 a2 a3 a4 a5 a6 a7 a8 a9 a10 a11 a12 a13 a14 a15 a16=>un 17 (fun a17 a18 a19 a20 a21 a22 a23 a24 a25 a26 a27 a28 a29 a30 a31 a32 a33 =>
  call Qhq [.agg [a0,a1,a2,a3,a4,a5,a6,a7,a8,a9,a10,a11,a12,a13,a14,a15],.agg [a17,a18,a19,a20,a21,a22,a23,a24,a25,a26,a27,a28,a29,a30,a31,a32]] fun o0 =>
  unP .not (atP o0 0) fun r1 =>
  xad r1
   (rt [.sc] [(.bool false)] k)
   (xaH a16 fun r2 =>
   xaH a33 fun r3 =>
   xac .neq r2 r3 fun r4 =>
   xad r4
    (rt [.sc] [(.bool false)] k)
    (lp (fun L w=>Qig_r0 w L
     (rt [.sc] [(.bool false)] k)
     (fun q6 q7 q8 q9 q10 q11 q12 q13 q14 q15 q16 q17 q18 q19 q20 q21 q22 q23 q24 q25 q26 q27 q28 q29 q30 q31 q32 q33 q34 q35 q36 q37 q38 q39 q40 q41=>rt [.sc] [(.bool true)] k)) [(.bool false),(I 0),a17,a18,a19,a20,a21,a22,a23,a24,a25,a26,a27,a28,a29,a30,a31,a32,a33,a0,a1,a2,a3,a4,a5,a6,a7,a8,a9,a10,a11,a12,a13,a14,a15,a16]))) u1) u0
 | _,_=>False
def Qig_l:List LE:=[⟨none,0,⟨[(2,.one (.ptr 0 0)),(3,.one (.ptr 1 0)),(4,.one zB),(5,.one zB)],[(1,[zB,zB,zB,zB,zB,zB,zB,zB,zB,zB,zB,zB,zB,zB,zB,zB,zB]),(0,[zB,zB,zB,zB,zB,zB,zB,zB,zB,zB,zB,zB,zB,zB,zB,zB,zB])],[],3,39,[]⟩,fun K k v=>Qig_r0 v K (k .ret ⟨[(4,.one (.kb false))],[],[],3,39,[]⟩) (fun x0 x1 x2 x3 x4 x5 x6 x7 x8 x9 x10 x11 x12 x13 x14 x15 x16 x17 x18 x19 x20 x21 x22 x23 x24 x25 x26 x27 x28 x29 x30 x31 x32 x33 x34 x35=>k (.exit 0) ⟨[(2,.one (.ptr 0 0)),(3,.one (.ptr 1 0)),(4,.one (.pv x0)),(5,.one (.pv x1))],[(1,[.pv x2,.pv x3,.pv x4,.pv x5,.pv x6,.pv x7,.pv x8,.pv x9,.pv x10,.pv x11,.pv x12,.pv x13,.pv x14,.pv x15,.pv x16,.pv x17,.pv x18]),(0,[.pv x19,.pv x20,.pv x21,.pv x22,.pv x23,.pv x24,.pv x25,.pv x26,.pv x27,.pv x28,.pv x29,.pv x30,.pv x31,.pv x32,.pv x33,.pv x34,.pv x35])],[],3,39,[]⟩)⟩]
theorem Qig_s:xaE [⟨[299],Qhq⟩] TT (kk [2,3,4,5,999999]) Qig_l f355 Qig_l:=⟨fun v K k h=>by
 apply xab h;(repeat intro _);rename_i h;exact km h
 ,trivial⟩
theorem Qig_w:EO ⟨[355],Qig⟩:=oN (ec Qhq_w en) (keep:=(kk [2,3,4,5,999999])) (l:=Qig_l) func355 Qig_s fun av k h=>by
 unfold Qig at h;split at h
 ·apply xab h;clear h;(repeat intro _);rename_i h;apply xab h;clear h;(repeat intro _);rename_i h;exact km h
 ·exact h.elim
def Qih:GM
 | [.agg u0],k=>un 51 (fun a0 a1 a2 a3 a4 a5 a6 a7 a8 a9 a10 a11 a12 a13 a14 a15 a16 a17 a18 a19 a20 a21 a22 a23 a24 a25 a26 a27 a28 a29 a30 a31 a32 a33 a34 a35 a36 a37 a38 a39 a40 a41 a42 a43 a44 a45 a46 a47 a48 a49 a50 =>
  call Qhq [.agg [a17,a18,a19,a20,a21,a22,a23,a24,a25,a26,a27,a28,a29,a30,a31,a32],.agg [a34,a35,a36,a37,a38,a39,a40,a41,a42,a43,a44,a45,a46,a47,a48,a49]] fun o0 =>
  xad (atP o0 0)
   (rt [.sc] [(.bool false)] k)
   (call Qig [.agg [a0,a1,a2,a3,a4,a5,a6,a7,a8,a9,a10,a11,a12,a13,a14,a15,a16],.agg [(I 0),(I 0),(I 0),(I 0),(I 0),(I 0),(I 0),(I 0),(.list 1 []),(I 0),(.list 1 []),(I 0),(I 0),(.list 1 []),(I 0),(.bool false),(.list 2 [])]] fun o1 =>
   xad (atP o1 0)
    (call Qcc [.agg [a17,a18,a19,a20,a21,a22,a23,a24,a25,a26,a27,a28,a29,a30,a31,a32,a33]] fun o2 =>
    xad (atP o2 0)
     (call Qcc [.agg [a34,a35,a36,a37,a38,a39,a40,a41,a42,a43,a44,a45,a46,a47,a48,a49,a50]] fun o3 =>
     xad (atP o3 0)
      (xac .eql a17 a34 fun r4 =>
      rt [.sc] [r4] k)
      (rt [.sc] [(.bool false)] k))
     (rt [.sc] [(.bool false)] k))
    (call Qcl [.agg [a0,a1,a2,a3,a4,a5,a6,a7,a8,a9,a10,a11,a12,a13,a14,a15],.agg [a17,a18,a19,a20,a21,a22,a23,a24,a25,a26,a27,a28,a29,a30,a31,a32,a33]] fun o5 =>
    xad (atP o5 0)
     (call Qcl [.agg [a0,a1,a2,a3,a4,a5,a6,a7,a8,a9,a10,a11,a12,a13,a14,a15],.agg [a34,a35,a36,a37,a38,a39,a40,a41,a42,a43,a44,a45,a46,a47,a48,a49,a50]] fun o6 =>
     rt [.sc] [(atP o6 0)] k)
     (rt [.sc] [(.bool false)] k)))) u0
 | _,_=>False
theorem Qih_w:EO ⟨[304],Qih⟩:=oNz (ec Qhq_w (ec Qig_w (ec Qcc_w (ec Qcl_w en)))) func304 fun av k h=>by
 unfold Qih at h;split at h
 ·apply xab h;clear h;(repeat intro _);rename_i h;exact km h
 ·exact h.elim
def Qii:GM
 | [.agg u0],k=>un 51 (fun a0 a1 a2 a3 a4 a5 a6 a7 a8 a9 a10 a11 a12 a13 a14 a15 a16 a17 a18 a19 a20 a21 a22 a23 a24 a25 a26 a27 a28 a29 a30 a31 a32 a33 a34 a35 a36 a37 a38 a39 a40 a41 a42 a43 a44 a45 a46 a47 a48 a49 a50 =>
  call Qih [.agg [a0,a1,a2,a3,a4,a5,a6,a7,a8,a9,a10,a11,a12,a13,a14,a15,a16,a17,a18,a19,a20,a21,a22,a23,a24,a25,a26,a27,a28,a29,a30,a31,a32,a33,a34,a35,a36,a37,a38,a39,a40,a41,a42,a43,a44,a45,a46,a47,a48,a49,a50]] fun o0 =>
  unP .not (atP o0 0) fun r1 =>
  xad r1
   (rt [.sc] [(I (-1))] k)
   (rt [.sc] [a17] k)) u0
 | _,_=>False
theorem Qii_w:EO ⟨[244],Qii⟩:=oNz (ec Qih_w en) func244 fun av k h=>by
 unfold Qii at h;split at h
 ·apply xab h;clear h;(repeat intro _);rename_i h;exact km h
 ·exact h.elim
def Qij_r0 (v:List PV) (K:List PV→Prop) (x0k:Prop) (x1k:Cur 5):Prop :=
 un 5 (fun v0 v1 v2 v3 v4 =>
  xaH v4 fun r0 =>
  xac .lss v2 r0 fun r1 =>
  xad r1
   (xaj 51 v4 v2 fun c2 =>
   call Qii [.agg [(atP c2 0),(atP c2 1),(atP c2 2),(atP c2 3),(atP c2 4),(atP c2 5),(atP c2 6),(atP c2 7),(atP c2 8),(atP c2 9),(atP c2 10),(atP c2 11),(atP c2 12),(atP c2 13),(atP c2 14),(atP c2 15),(atP c2 16),(atP c2 17),(atP c2 18),(atP c2 19),(atP c2 20),(atP c2 21),(atP c2 22),(atP c2 23),(atP c2 24),(atP c2 25),(atP c2 26),(atP c2 27),(atP c2 28),(atP c2 29),(atP c2 30),(atP c2 31),(atP c2 32),(atP c2 33),(atP c2 34),(atP c2 35),(atP c2 36),(atP c2 37),(atP c2 38),(atP c2 39),(atP c2 40),(atP c2 41),(atP c2 42),(atP c2 43),(atP c2 44),(atP c2 45),(atP c2 46),(atP c2 47),(atP c2 48),(atP c2 49),(atP c2 50)]] fun o3 =>
   xac .eql (atP o3 0) v0 fun r4 =>
   xad r4
    (xac .geq v0 (I 0) fun r5 =>
    xad r5
     (x0k)
     (xac .add v2 (I 1) fun r6 =>
     K [v0,v1,r6,v3,v4]))
    (xac .add v2 (I 1) fun r7 =>
    K [v0,v1,r7,v3,v4]))
   (x1k v0 v1 v2 v3 v4)) v
def Qij:GM
 | [.agg u0,.one a2],k=>un 2 (fun a0 a1 =>
  lp (fun L w=>Qij_r0 w L
   (rt [.sc] [(.bool true)] k)
   (fun q8 q9 q10 q11 q12=>rt [.sc] [(.bool false)] k)) [a2,(.bool false),(I 0),a0,a1]) u0
 | _,_=>False
def Qij_l:List LE:=[⟨none,0,⟨[(1,.one zB),(2,.one (.ptr 0 0)),(4,.one zB),(5,.one zB)],[(0,[zB,zB])],[],1,25,[]⟩,fun K k v=>Qij_r0 v K (k .ret ⟨[(4,.one (.kb true))],[],[],2,25,[]⟩) (fun x0 x1 x2 x3 x4=>k (.exit 0) ⟨[(1,.one (.pv x0)),(2,.one (.ptr 0 0)),(4,.one (.pv x1)),(5,.one (.pv x2))],[(0,[.pv x3,.pv x4])],[],1,25,[]⟩)⟩]
theorem Qij_s:xaE [⟨[244],Qii⟩] TT (kk [1,2,4,5,22,23,999999]) Qij_l f174 Qij_l:=⟨fun v K k h=>by
 apply xab h;exact fun v0 v1 v2 v3 v4 h=>km h
 ,trivial⟩
theorem Qij_w:EO ⟨[174],Qij⟩:=oN (ec Qii_w en) (keep:=(kk [1,2,4,5,22,23,999999])) (l:=Qij_l) func174 Qij_s fun av k h=>by
 unfold Qij at h;split at h
 ·apply xab h;clear h;intro a0 a1 h;exact km h
 ·exact h.elim
def Qik_r0 (v:List PV) (K:List PV→Prop) (x0k:Cur 17) (x1k:Cur 17) (x2k:Cur 17) (x3k:Cur 17) (x4k:Cur 23):Prop :=
 un 23 (fun v0 v1 v2 v3 v4 v5 v6 v7 v8 v9 v10 v11 v12 v13 v14 v15 v16 v17 v18 v19 v20 v21 v22 =>
  let F9:=fun (c2:List PV) (r61:PV)=>call Qbj [.agg [(atP c2 2),(atP c2 3),(atP c2 4),(atP c2 5)]] fun o63 =>
   x2k v5 v6 (atP c2 1) (atP o63 0) (atP o63 1) (atP o63 2) (atP o63 3) v13 v14 v15 v16 v17 v18 v19 v20 r61 v21
  let F2:=fun (c2:List PV) (o57:List PV)=>call Qij [.agg [v5,v6],.one v1] fun o60 =>
   xad (atP o60 0)
   ((1=1)∧(1≤16777216)∧(1=1)∧(0=0)∧(1=1)∧(xae [.pv (I 0)] [.pv (I 3)])∧xbh 1 v22 (.list 1 [[(I 3)]]) fun r61 =>
   xac .eql (I 3) (I 1) fun r62 =>
   xad r62
   (F9 c2 r61)
   (xac .add v4 (I 1) fun r64 =>
   K [v0,v1,v2,v3,r64,v5,v6,v7,v8,v9,v10,v11,v12,v13,v14,v15,v16,v17,v18,v19,v20,v21,r61]))
   ((1=1)∧(1≤16777216)∧(1=1)∧(0=0)∧(1=1)∧(xae [.pv (I 0)] [.pv (atP o57 0)])∧xbh 1 v22 (.list 1 [[(atP o57 0)]]) fun r65 =>
   xac .eql (atP o57 0) (I 1) fun r66 =>
   xad r66
   (F9 c2 r65)
   (xac .add v4 (I 1) fun r68 =>
   K [v0,v1,v2,v3,r68,v5,v6,v7,v8,v9,v10,v11,v12,v13,v14,v15,v16,v17,v18,v19,v20,v21,r65]))
  let F7:=fun (c2:List PV) (r91:PV)=>call Qbj [.agg [(atP c2 2),(atP c2 3),(atP c2 4),(atP c2 5)]] fun o93 =>
   x3k v5 v6 (atP c2 1) (atP o93 0) (atP o93 1) (atP o93 2) (atP o93 3) v13 v14 v15 v16 v17 v18 v19 v20 r91 v21
  let F4:=fun (o57:List PV) (c2:List PV)=>(1=1)∧(1≤16777216)∧(1=1)∧(0=0)∧(1=1)∧(xae [.pv (I 0)] [.pv (atP o57 0)])∧xbh 1 v22 (.list 1 [[(atP o57 0)]]) fun r69 =>
   xac .eql (atP o57 0) (I 1) fun r70 =>
   xad r70
   (F7 c2 r69)
   (xac .add v4 (I 1) fun r72 =>
   K [v0,v1,v2,v3,r72,v5,v6,v7,v8,v9,v10,v11,v12,v13,v14,v15,v16,v17,v18,v19,v20,v21,r69])
  let F0:=fun (c2:List PV)=>call Qif [.one v1,.one v2,.agg [(atP c2 0),(atP c2 1),(atP c2 2),(atP c2 3),(atP c2 4),(atP c2 5),(atP c2 6),(atP c2 7),(atP c2 8),(atP c2 9),(atP c2 10),(atP c2 11),(atP c2 12),(atP c2 13),(atP c2 14),(atP c2 15),(atP c2 16),(atP c2 17),(atP c2 18),(atP c2 19),(atP c2 20)],.one v3] fun o57 =>
   xac .eql (I 6) (I 1) fun r58 =>
   xad r58
   (xac .eql (atP o57 0) (I 1) fun r59 =>
   xad r59
   (F2 c2 o57)
   (F4 o57 c2))
   (xac .eql (I 6) (I 2) fun r73 =>
   xad r73
   (xac .eql (atP o57 0) (I 1) fun r74 =>
   xad r74
   (F2 c2 o57)
   (F4 o57 c2))
   (xac .eql (I 6) (I 3) fun r88 =>
   xac .eql (atP o57 0) (I 1) fun r89 =>
   xad r89
   (unP .not r88 fun r90 =>
   xad r90
   ((1=1)∧(1≤16777216)∧(1=1)∧(0=0)∧(1=1)∧(xae [.pv (I 0)] [.pv (I 3)])∧xbh 1 v22 (.list 1 [[(I 3)]]) fun r91 =>
   xac .eql (I 3) (I 1) fun r92 =>
   xad r92
   (F7 c2 r91)
   (xac .add v4 (I 1) fun r94 =>
   K [v0,v1,v2,v3,r94,v5,v6,v7,v8,v9,v10,v11,v12,v13,v14,v15,v16,v17,v18,v19,v20,v21,r91]))
   (F2 c2 o57))
   (F4 o57 c2)))
  let F8:=fun (c2:List PV) (o5:List PV) (r10:PV)=>call Qbj [.agg [(atP c2 2),(atP c2 3),(atP c2 4),(atP c2 5)]] fun o12 =>
   x0k (atP o5 0) (atP o5 1) (atP c2 1) (atP o12 0) (atP o12 1) (atP o12 2) (atP o12 3) v13 v14 v15 v16 v17 v18 v19 v20 r10 v21
  let F5:=fun (o5:List PV) (r40:PV)=>xac .add v4 (I 1) fun r43 =>
   K [v0,v1,v2,v3,r43,(atP o5 0),(atP o5 1),v7,v8,v9,v10,v11,v12,v13,v14,v15,v16,v17,v18,v19,v20,v21,r40]
  let F1:=fun (o5:List PV) (c2:List PV) (o6:List PV)=>call Qij [.agg [(atP o5 0),(atP o5 1)],.one v1] fun o9 =>
   xad (atP o9 0)
   ((1=1)∧(1≤16777216)∧(1=1)∧(0=0)∧(1=1)∧(xae [.pv (I 0)] [.pv (I 3)])∧xbh 1 v22 (.list 1 [[(I 3)]]) fun r10 =>
   xac .eql (I 3) (I 1) fun r11 =>
   xad r11
   (F8 c2 o5 r10)
   (F5 o5 r10))
   ((1=1)∧(1≤16777216)∧(1=1)∧(0=0)∧(1=1)∧(xae [.pv (I 0)] [.pv (atP o6 0)])∧xbh 1 v22 (.list 1 [[(atP o6 0)]]) fun r14 =>
   xac .eql (atP o6 0) (I 1) fun r15 =>
   xad r15
   (F8 c2 o5 r14)
   (F5 o5 r14))
  let F6:=fun (c2:List PV) (o5:List PV) (r40:PV)=>call Qbj [.agg [(atP c2 2),(atP c2 3),(atP c2 4),(atP c2 5)]] fun o42 =>
   x1k (atP o5 0) (atP o5 1) (atP c2 1) (atP o42 0) (atP o42 1) (atP o42 2) (atP o42 3) v13 v14 v15 v16 v17 v18 v19 v20 r40 v21
  let F3:=fun (o6:List PV) (c2:List PV) (o5:List PV)=>(1=1)∧(1≤16777216)∧(1=1)∧(0=0)∧(1=1)∧(xae [.pv (I 0)] [.pv (atP o6 0)])∧xbh 1 v22 (.list 1 [[(atP o6 0)]]) fun r18 =>
   xac .eql (atP o6 0) (I 1) fun r19 =>
   xad r19
   (F6 c2 o5 r18)
   (F5 o5 r18)
  xaH v0 fun r0 =>
  xac .lss v4 r0 fun r1 =>
  xad r1
   (xaj 21 v0 v4 fun c2 =>
   call Qco [.one (atP c2 0)] fun o3 =>
   xad (atP o3 16)
    (xac .eql (atP o3 0) v1 fun r4 =>
    xad r4
     (call Qhu [.agg [v5,v6],.one (atP c2 0)] fun o5 =>
     call Qif [.one v1,.one v2,.agg [(atP c2 0),(atP c2 1),(atP c2 2),(atP c2 3),(atP c2 4),(atP c2 5),(atP c2 6),(atP c2 7),(atP c2 8),(atP c2 9),(atP c2 10),(atP c2 11),(atP c2 12),(atP c2 13),(atP c2 14),(atP c2 15),(atP c2 16),(atP c2 17),(atP c2 18),(atP c2 19),(atP c2 20)],.one v3] fun o6 =>
     xac .eql (atP o5 2) (I 1) fun r7 =>
     xad r7
      (xac .eql (atP o6 0) (I 1) fun r8 =>
      xad r8
       (F1 o5 c2 o6)
       (F3 o6 c2 o5))
      (xac .eql (atP o5 2) (I 2) fun r22 =>
      xad r22
       (xac .eql (atP o6 0) (I 1) fun r23 =>
       xad r23
        (F1 o5 c2 o6)
        (F3 o6 c2 o5))
       (xac .eql (atP o5 2) (I 3) fun r37 =>
       xac .eql (atP o6 0) (I 1) fun r38 =>
       xad r38
        (unP .not r37 fun r39 =>
        xad r39
         ((1=1)∧(1≤16777216)∧(1=1)∧(0=0)∧(1=1)∧(xae [.pv (I 0)] [.pv (I 3)])∧xbh 1 v22 (.list 1 [[(I 3)]]) fun r40 =>
         xac .eql (I 3) (I 1) fun r41 =>
         xad r41
          (F6 c2 o5 r40)
          (F5 o5 r40))
         (F1 o5 c2 o6))
        (F3 o6 c2 o5))))
     (F0 c2))
    (F0 c2))
   (x4k v0 v1 v2 v3 v4 v5 v6 v7 v8 v9 v10 v11 v12 v13 v14 v15 v16 v17 v18 v19 v20 v21 v22)) v
def Qik:GM
 | [.agg u0,.one a2,.one a3,.one a4,.one a5],k=>un 2 (fun a0 a1 =>
  call Qbh [.agg [a0,a1]] fun o0 =>
  lp (fun L w=>Qik_r0 w L
   (fun q159 q160 q161 q162 q163 q164 q165 q166 q167 q168 q169 q170 q171 q172 q173 q174 q175=>rt g5 [q159,q160,q161,q162,q163,q164,q165,(.bool true),q174] k)
   (fun q176 q177 q178 q179 q180 q181 q182 q183 q184 q185 q186 q187 q188 q189 q190 q191 q192=>rt g5 [q176,q177,q178,q179,q180,q181,q182,(.bool true),q191] k)
   (fun q193 q194 q195 q196 q197 q198 q199 q200 q201 q202 q203 q204 q205 q206 q207 q208 q209=>rt g5 [q193,q194,q195,q196,q197,q198,q199,(.bool true),q208] k)
   (fun q210 q211 q212 q213 q214 q215 q216 q217 q218 q219 q220 q221 q222 q223 q224 q225 q226=>rt g5 [q210,q211,q212,q213,q214,q215,q216,(.bool true),q225] k)
   (fun q227 q228 q229 q230 q231 q232 q233 q234 q235 q236 q237 q238 q239 q240 q241 q242 q243 q244 q245 q246 q247 q248 q249=>rt g5 [q232,q233,q234,q235,q236,q237,q238,q239,q249] k)) [a2,a3,a4,a5,(I 0),(atP o0 0),(atP o0 1),(.bool false),(.str ⟨#[]⟩),(I 0),(I 0),(.list 1 []),(.bool false),(.list 1 []),(.list 51 []),(.bool false),(.str ⟨#[]⟩),(I 0),(I 0),(.list 1 []),(.bool false),(.list 1 []),(.list 1 [])]) u0
 | _,_=>False
def Qik_l:List LE:=[⟨none,0,⟨[(1,.one zB),(2,.one zB),(3,.one zB),(4,.one zB),(10,.one (.ptr 1 0)),(11,.one (.ptr 4 0)),(12,.one zB)],[(4,[zB,zB,zB,zB,zB,zB,zB,zB,.own 5]),(1,[zB,zB,zB,zB,zB,zB,zB,zB,.own 6])],[(6,⟨.deep,3,1,(.bool false)⟩),(5,⟨.deep,3,1,(.bool false)⟩)],7,99,[]⟩,fun K k v=>Qik_r0 v K (fun x0 x1 x2 x3 x4 x5 x6 x7 x8 x9 x10 x11 x12 x13 x14 x15 x16=>k .ret ⟨[(10,.one (.ptr 1 0))],[(1,[.pv x0,.pv x1,.pv x2,.pv x3,.pv x4,.pv x5,.pv x6,.kb true,.own 32]),(1,[.pv x7,.pv x8,.pv x9,.pv x10,.pv x11,.pv x12,.pv x13,.pv x14,.own 6])],[(32,⟨.deep,3,1,x15⟩),(6,⟨.deep,3,1,x16⟩)],37,99,[]⟩) (fun x0 x1 x2 x3 x4 x5 x6 x7 x8 x9 x10 x11 x12 x13 x14 x15 x16=>k .ret ⟨[(10,.one (.ptr 1 0))],[(1,[.pv x0,.pv x1,.pv x2,.pv x3,.pv x4,.pv x5,.pv x6,.kb true,.own 31]),(1,[.pv x7,.pv x8,.pv x9,.pv x10,.pv x11,.pv x12,.pv x13,.pv x14,.own 6])],[(31,⟨.deep,3,1,x15⟩),(6,⟨.deep,3,1,x16⟩)],36,99,[]⟩) (fun x0 x1 x2 x3 x4 x5 x6 x7 x8 x9 x10 x11 x12 x13 x14 x15 x16=>k .ret ⟨[(10,.one (.ptr 1 0))],[(1,[.pv x0,.pv x1,.pv x2,.pv x3,.pv x4,.pv x5,.pv x6,.kb true,.own 29]),(1,[.pv x7,.pv x8,.pv x9,.pv x10,.pv x11,.pv x12,.pv x13,.pv x14,.own 6])],[(29,⟨.deep,3,1,x15⟩),(6,⟨.deep,3,1,x16⟩)],34,99,[]⟩) (fun x0 x1 x2 x3 x4 x5 x6 x7 x8 x9 x10 x11 x12 x13 x14 x15 x16=>k .ret ⟨[(10,.one (.ptr 1 0))],[(1,[.pv x0,.pv x1,.pv x2,.pv x3,.pv x4,.pv x5,.pv x6,.kb true,.own 28]),(1,[.pv x7,.pv x8,.pv x9,.pv x10,.pv x11,.pv x12,.pv x13,.pv x14,.own 6])],[(28,⟨.deep,3,1,x15⟩),(6,⟨.deep,3,1,x16⟩)],33,99,[]⟩) (fun x0 x1 x2 x3 x4 x5 x6 x7 x8 x9 x10 x11 x12 x13 x14 x15 x16 x17 x18 x19 x20 x21 x22=>k (.exit 0) ⟨[(1,.one (.pv x0)),(2,.one (.pv x1)),(3,.one (.pv x2)),(4,.one (.pv x3)),(10,.one (.ptr 1 0)),(11,.one (.ptr 4 0)),(12,.one (.pv x4))],[(4,[.pv x5,.pv x6,.pv x7,.pv x8,.pv x9,.pv x10,.pv x11,.pv x12,.own 5]),(1,[.pv x13,.pv x14,.pv x15,.pv x16,.pv x17,.pv x18,.pv x19,.pv x20,.own 6])],[(6,⟨.deep,3,1,x21⟩),(5,⟨.deep,3,1,x22⟩)],7,99,[]⟩)⟩]
theorem Qik_s:xaE [⟨[150],Qbh⟩,⟨[171],Qco⟩,⟨[172],Qhu⟩,⟨[173],Qif⟩,⟨[174],Qij⟩,⟨[175],Qbj⟩] TT.shr (kk [1,2,3,4,10,11,12,40,41,42,43,62,63,66,67,72,73,74,75,76,77,78,79,999999]) Qik_l f85 Qik_l:=⟨fun v K k h=>by
 apply xab h;(repeat intro _);rename_i h;exact km h
 ,trivial⟩
theorem Qik_w:EO ⟨[85],Qik⟩:=oS (ec Qbh_w (ec Qco_w (ec Qhu_w (ec Qif_w (ec Qij_w (ec Qbj_w en)))))) (keep:=(kk [1,2,3,4,10,11,12,40,41,42,43,62,63,66,67,72,73,74,75,76,77,78,79,999999])) (l:=Qik_l) func85 Qik_s fun av k h=>by
 unfold Qik at h;split at h
 ·apply xab h;clear h;intro a0 a1 h;exact km h
 ·exact h.elim
def Qil:GM
 | [.agg u0,.ro (.cells u1)],k=>un 2 (fun a0 a1=>un 1 (fun a2 =>
  call Qgi [.agg [a0,a1]] fun o0 =>
  xac .eql (atP o0 0) a2 fun r1 =>
  rt [.sc] [r1] k) u1) u0
 | _,_=>False
theorem Qil_w:EO ⟨[249],Qil⟩:=oFz (ec Qgi_w en) func249 fun av k h=>by
 unfold Qil at h;split at h
 ·apply xab h;clear h;intro a0 a1 h;apply xab h;clear h;intro a2 h;exact km h
 ·exact h.elim
def Qim_r0 (v:List PV) (K:List PV→Prop) (x0k:PV→Prop) (x1k:Cur 5):Prop :=
 un 5 (fun v0 v1 v2 v3 v4 =>
  xac .lss v4 v3 fun r0 =>
  xad r0
   (xaj 2 v0 v4 fun c1 =>
   call Qil [.agg [(atP c1 0),(atP c1 1)],.ro (.cells [v1])] fun o2 =>
   xad (atP o2 0)
    (x0k v4)
    (xac .add v4 (I 1) fun r3 =>
    K [v0,v1,v2,v3,r3]))
   (x1k v0 v1 v2 v3 v4)) v
def Qim:GM
 | [.one a0,.fn 249 [.cells u0]],k=>un 1 (fun a1 =>
  xaH a0 fun r0 =>
  lp (fun L w=>Qim_r0 w L
   (fun q4=>rt [.sc] [q4] k)
   (fun q5 q6 q7 q8 q9=>rt [.sc] [(I (-1))] k)) [a0,a1,(I 0),r0,(I 0)]) u0
 | _,_=>False
def Qim_l:List LE:=[⟨none,0,⟨[(0,.one zB),(1,.one (.fn 249 [.ro (.cells [(.bool false)])])),(4,.one zB),(7,.one zB),(8,.one zB)],[],[],0,19,[]⟩,fun K k v=>Qim_r0 v K (fun x0=>k .ret ⟨[(4,.one (.pv x0))],[],[],1,19,[]⟩) (fun x0 x1 x2 x3 x4=>k (.exit 0) ⟨[(0,.one (.pv x0)),(1,.one (.fn 249 [.ro (.cells [x1])])),(4,.one (.pv x2)),(7,.one (.pv x3)),(8,.one (.pv x4))],[],[],0,19,[]⟩)⟩]
theorem Qim_s:xaE [⟨[249],Qil⟩] TT (kk [0,1,4,7,8]) Qim_l f248 Qim_l:=⟨fun v K k h=>by
 apply xab h;exact fun v0 v1 v2 v3 v4 h=>km h
 ,trivial⟩
theorem Qim_w:EO ⟨[248,249],Qim⟩:=oN (ec Qil_w en) (keep:=(kk [0,1,4,7,8])) (l:=Qim_l) func248 Qim_s fun av k h=>by
 unfold Qim at h;split at h
 ·apply xab h;clear h;intro a1 h;exact km h
 ·exact h.elim
def Qin:GM
 | [.agg u0,.one a2],k=>un 2 (fun a0 a1 =>
  xac .lss a2 (I 0) fun r0 =>
  xad r0
   (rt [.sc] [(I (-1))] k)
   (call Qim [.one a0,.fn 249 [.cells [a2]]] fun o1 =>
   rt [.sc] [(atP o1 0)] k)) u0
 | _,_=>False
theorem Qin_w:EO ⟨[178],Qin⟩:=oFz (ec Qim_w en) func178 fun av k h=>by
 unfold Qin at h;split at h
 ·apply xab h;clear h;intro a0 a1 h;exact km h
 ·exact h.elim
def Qio:GM
 | [.agg u0,.ro (.cells u1)],k=>un 4 (fun a0 a1 a2 a3=>un 1 (fun a4 =>
  xac .eql a0 a4 fun r0 =>
  rt [.sc] [r0] k) u1) u0
 | _,_=>False
theorem Qio_w:EO ⟨[358],Qio⟩:=oFz en func358 fun av k h=>by
 unfold Qio at h;split at h
 ·apply xab h;clear h;intro a0 a1 a2 a3 h;apply xab h;clear h;intro a4 h;exact km h
 ·exact h.elim
def Qip_r0 (v:List PV) (K:List PV→Prop) (x0k:PV→Prop) (x1k:Cur 5):Prop :=
 un 5 (fun v0 v1 v2 v3 v4 =>
  xac .lss v4 v3 fun r0 =>
  xad r0
   (xaj 4 v0 v4 fun c1 =>
   call Qio [.agg [(atP c1 0),(atP c1 1),(atP c1 2),(atP c1 3)],.ro (.cells [v1])] fun o2 =>
   xad (atP o2 0)
    (x0k v4)
    (xac .add v4 (I 1) fun r3 =>
    K [v0,v1,v2,v3,r3]))
   (x1k v0 v1 v2 v3 v4)) v
def Qip:GM
 | [.one a0,.fn 358 [.cells u0]],k=>un 1 (fun a1 =>
  xaH a0 fun r0 =>
  lp (fun L w=>Qip_r0 w L
   (fun q4=>rt [.sc] [q4] k)
   (fun q5 q6 q7 q8 q9=>rt [.sc] [(I (-1))] k)) [a0,a1,(I 0),r0,(I 0)]) u0
 | _,_=>False
def Qip_l:List LE:=[⟨none,0,⟨[(0,.one zB),(1,.one (.fn 358 [.ro (.cells [(.bool false)])])),(4,.one zB),(7,.one zB),(8,.one zB)],[],[],0,19,[]⟩,fun K k v=>Qip_r0 v K (fun x0=>k .ret ⟨[(4,.one (.pv x0))],[],[],1,19,[]⟩) (fun x0 x1 x2 x3 x4=>k (.exit 0) ⟨[(0,.one (.pv x0)),(1,.one (.fn 358 [.ro (.cells [x1])])),(4,.one (.pv x2)),(7,.one (.pv x3)),(8,.one (.pv x4))],[],[],0,19,[]⟩)⟩]
theorem Qip_s:xaE [⟨[358],Qio⟩] TT (kk [0,1,4,7,8]) Qip_l f357 Qip_l:=⟨fun v K k h=>by
 apply xab h;exact fun v0 v1 v2 v3 v4 h=>km h
 ,trivial⟩
theorem Qip_w:EO ⟨[357,358],Qip⟩:=oN (ec Qio_w en) (keep:=(kk [0,1,4,7,8])) (l:=Qip_l) func357 Qip_s fun av k h=>by
 unfold Qip at h;split at h
 ·apply xab h;clear h;intro a1 h;exact km h
 ·exact h.elim
def Qiq:GM
 | [.one a0,.one a1],k =>
  call Qip [.one a0,.fn 358 [.cells [a1]]] fun o0 =>
  rt [.sc] [(atP o0 0)] k
 | _,_=>False
theorem Qiq_w:EO ⟨[308],Qiq⟩:=oFz (ec Qip_w en) func308 fun av k h=>by
 unfold Qiq at h;split at h
 ·exact km h
 ·exact h.elim
def Qir_r0 (v:List PV) (K:List PV→Prop) (x0k:Cur 4):Prop :=
 un 4 (fun v0 v1 v2 v3 =>
  xaH v0 fun r0 =>
  xac .gtr r0 (I 1) fun r1 =>
  xad r1
   (xac .xor v1 (I 1) fun r2 =>
   xaH v0 fun r3 =>
   xac .lss r2 r3 fun r4 =>
   xad r4
    (xaj 1 v0 r2 fun c5 =>
    (1=1)∧(1≤16777216)∧(1=1)∧(0=0)∧(1=1)∧(xae [.pv (I 0)] [.pv (atP c5 0)])∧xbh 1 v3 (.list 1 [[(atP c5 0)]]) fun r6 =>
    call Qgc [.one v0] fun o7 =>
    xac .quo v1 (I 2) fun r8 =>
    K [(atP o7 0),r8,v2,r6])
    (call Qgc [.one v0] fun o9 =>
    xac .quo v1 (I 2) fun r10 =>
    K [(atP o9 0),r10,v2,v3]))
   (x0k v0 v1 v2 v3)) v
def Qir:GM
 | [.one a0,.one a1],k =>
  (0=0)∧(0≤16777216)∧(1=1)∧xaH a0 fun r0 =>
  xac .sub r0 (I 1) fun r1 =>
  call Qdw [.one a1,.one (I 0),.one r1] fun o2 =>
  unP .not (atP o2 0) fun r3 =>
  xad r3
   (rt [.own true 3 1] [(.list 1 [])] k)
   (lp (fun L w=>Qir_r0 w L
    (fun q11 q12 q13 q14=>rt [.own true 3 1] [q14] k)) [a0,a1,(.list 1 []),(.list 1 [])])
 | _,_=>False
def Qir_l:List LE:=[⟨none,0,⟨[(0,.one zB),(1,.one zB),(4,.one (.own 2)),(5,.one (.own 0))],[],[(2,⟨.deep,3,1,(.bool false)⟩),(0,⟨.deep,3,1,(.bool false)⟩)],3,36,[]⟩,fun K k v=>Qir_r0 v K (fun x0 x1 x2 x3=>k (.exit 0) ⟨[(0,.one (.pv x0)),(1,.one (.pv x1)),(4,.one (.own 2)),(5,.one (.own 0))],[],[(2,⟨.deep,3,1,x2⟩),(0,⟨.deep,3,1,x3⟩)],3,36,[]⟩)⟩]
theorem Qir_s:xaE [⟨[266],Qdw⟩,⟨[401],Qgc⟩] TT.nofl (kk [0,1,4,5,999999]) Qir_l f359 Qir_l:=⟨fun v K k h=>by
 apply xab h;exact fun v0 v1 v2 v3 h=>km h
 ,trivial⟩
theorem Qir_w:EO ⟨[359],Qir⟩:=oF (ec Qdw_w (ec Qgc_w en)) (keep:=(kk [0,1,4,5,999999])) (l:=Qir_l) func359 Qir_s fun av k h=>by
 unfold Qir at h;split at h
 ·exact km h
 ·exact h.elim
def Qis:GM
 | [.one a0,.one a1],k =>
  call Qiq [.one a0,.one a1] fun o0 =>
  xac .lss (atP o0 0) (I 0) fun r1 =>
  xad r1
   (rt [.sc,.own true 3 1,.sc] [(I 0),(.list 1 []),(.bool false)] k)
   (call Qfz [.one a0] fun o2 =>
   call Qir [.one (atP o2 0),.one (atP o0 0)] fun o3 =>
   rt [.sc,.own true 3 1,.sc] [(atP o0 0),(atP o3 0),(.bool true)] k)
 | _,_=>False
theorem Qis_w:EO ⟨[309],Qis⟩:=oFz (ec Qiq_w (ec Qfz_w (ec Qir_w en))) func309 fun av k h=>by
 unfold Qis at h;split at h
 ·exact km h
 ·exact h.elim
def Qit_r0 (v:List PV) (K:List PV→Prop) (x0k:Cur 6):Prop :=
 un 6 (fun v0 v1 v2 v3 v4 v5 =>
  xac .lss v5 v4 fun r0 =>
  xad r0
   (xaj 4 v3 v5 fun c1 =>
   call Qft [.one (atP c1 0),.one v0] fun o2 =>
   xac .lss (atP o2 0) (I 0) fun r3 =>
   xad r3
    (xac .add v2 (I 1) fun r4 =>
    xac .add v5 (I 1) fun r5 =>
    K [v0,v1,r4,v3,v4,r5])
    (xac .add v5 (I 1) fun r6 =>
    K [v0,v1,v2,v3,v4,r6]))
   (x0k v0 v1 v2 v3 v4 v5)) v
def Qit:GM
 | [.one a0,.one a1],k =>
  xaH a0 fun r0 =>
  lp (fun L w=>Qit_r0 w L
   (fun q7 q8 q9 q10 q11 q12=>rt [.sc] [q9] k)) [a1,(I 0),(I 0),a0,r0,(I 0)]
 | _,_=>False
def Qit_l:List LE:=[⟨none,0,⟨[(1,.one zB),(4,.one zB),(5,.one zB),(8,.one zB),(9,.one zB),(10,.one zB)],[],[],0,23,[]⟩,fun K k v=>Qit_r0 v K (fun x0 x1 x2 x3 x4 x5=>k (.exit 0) ⟨[(1,.one (.pv x0)),(4,.one (.pv x1)),(5,.one (.pv x2)),(8,.one (.pv x3)),(9,.one (.pv x4)),(10,.one (.pv x5))],[],[],0,23,[]⟩)⟩]
theorem Qit_s:xaE [⟨[366],Qft⟩] TT.nofl (kk [1,4,5,8,9,10,999999]) Qit_l f361 Qit_l:=⟨fun v K k h=>by
 apply xab h;exact fun v0 v1 v2 v3 v4 v5 h=>km h
 ,trivial⟩
theorem Qit_w:EO ⟨[361],Qit⟩:=oF (ec Qft_w en) (keep:=(kk [1,4,5,8,9,10,999999])) (l:=Qit_l) func361 Qit_s fun av k h=>by
 unfold Qit at h;split at h
 ·exact km h
 ·exact h.elim
def Qiu:GM
 | [.one a0,.one a1],k =>
  call Qfu [.one a0] fun o0 =>
  unP .not (atP o0 0) fun r1 =>
  xad r1
   (rt g6 [(I 0),(.str ⟨#[]⟩),(I 0),(I 0),(.list 1 []),(.str ⟨#[]⟩),(I 0),(I 0),(.list 1 []),(I 0),(.list 1 []),(I 0),(.list 1 []),(.bool false)] k)
   (call Qfl [.one a1] fun o2 =>
   unP .not (atP o2 0) fun r3 =>
   xad r3
    (rt g6 [(I 0),(.str ⟨#[]⟩),(I 0),(I 0),(.list 1 []),(.str ⟨#[]⟩),(I 0),(I 0),(.list 1 []),(I 0),(.list 1 []),(I 0),(.list 1 []),(.bool false)] k)
    (call Qiq [.one a0,.one a1] fun o4 =>
    xac .geq (atP o4 0) (I 0) fun r5 =>
    xad r5
     (rt g6 [(I 0),(.str ⟨#[]⟩),(I 0),(I 0),(.list 1 []),(.str ⟨#[]⟩),(I 0),(I 0),(.list 1 []),(I 0),(.list 1 []),(I 0),(.list 1 []),(.bool false)] k)
     (call Qit [.one a0,.one a1] fun o6 =>
     xac .gtr (atP o6 0) (I 0) fun r7 =>
     xad r7
      (xac .sub (atP o6 0) (I 1) fun r8 =>
      xaj 4 a0 r8 fun c9 =>
      call Qdo [.agg (s4 c9)] fun o10 =>
      call Qis [.one a0,.one (atP o10 0)] fun o11 =>
      xaH a0 fun r12 =>
      xac .lss (atP o6 0) r12 fun r13 =>
      xad r13
       (xaj 4 a0 (atP o6 0) fun c14 =>
       call Qdo [.agg (s4 c14)] fun o15 =>
       call Qis [.one a0,.one (atP o15 0)] fun o16 =>
       rt g6 [(atP o6 0),(atP o10 0),(atP o10 1),(atP o10 2),(atP o10 3),(atP o15 0),(atP o15 1),(atP o15 2),(atP o15 3),(atP o11 0),(atP o11 1),(atP o16 0),(atP o16 1),(.bool true)] k)
       (rt g6 [(atP o6 0),(atP o10 0),(atP o10 1),(atP o10 2),(atP o10 3),(.str ⟨#[]⟩),(I 0),(I 0),(.list 1 []),(atP o11 0),(atP o11 1),(I 0),(.list 1 []),(.bool true)] k))
      (xaH a0 fun r17 =>
      xac .lss (atP o6 0) r17 fun r18 =>
      xad r18
       (xaj 4 a0 (atP o6 0) fun c19 =>
       call Qdo [.agg (s4 c19)] fun o20 =>
       call Qis [.one a0,.one (atP o20 0)] fun o21 =>
       rt g6 [(atP o6 0),(.str ⟨#[]⟩),(I 0),(I 0),(.list 1 []),(atP o20 0),(atP o20 1),(atP o20 2),(atP o20 3),(I 0),(.list 1 []),(atP o21 0),(atP o21 1),(.bool true)] k)
       (rt g6 [(atP o6 0),(.str ⟨#[]⟩),(I 0),(I 0),(.list 1 []),(.str ⟨#[]⟩),(I 0),(I 0),(.list 1 []),(I 0),(.list 1 []),(I 0),(.list 1 []),(.bool true)] k)))))
 | _,_=>False
theorem Qiu_w:EO ⟨[310],Qiu⟩:=oFz (ec Qfu_w (ec Qfl_w (ec Qiq_w (ec Qit_w (ec Qdo_w (ec Qis_w en)))))) func310 fun av k h=>by
 unfold Qiu at h;split at h
 ·exact km h
 ·exact h.elim
def Qiv:GM
 | [.agg u0,.one a2],k=>un 2 (fun a0 a1 =>
  call Qgh [.agg [a0,a1]] fun o0 =>
  unP .not (atP o0 0) fun r1 =>
  xad r1
   (rt g1 [(.list 17 []),(.bool false),(.str ⟨#[]⟩),(I 0),(I 0),(.list 1 []),(I 0),(.list 1 []),(I 0),(.str ⟨#[]⟩),(I 0),(I 0),(.list 1 []),(.str ⟨#[]⟩),(I 0),(I 0),(.list 1 []),(I 0),(.list 1 []),(I 0),(.list 1 [])] k)
   (call Qfl [.one a2] fun o2 =>
   unP .not (atP o2 0) fun r3 =>
   xad r3
    (rt g1 [(.list 17 []),(.bool false),(.str ⟨#[]⟩),(I 0),(I 0),(.list 1 []),(I 0),(.list 1 []),(I 0),(.str ⟨#[]⟩),(I 0),(I 0),(.list 1 []),(.str ⟨#[]⟩),(I 0),(I 0),(.list 1 []),(I 0),(.list 1 []),(I 0),(.list 1 [])] k)
    (call Qdm [.one a0] fun o4 =>
    call Qiq [.one a1,.one a2] fun o5 =>
    xac .geq (atP o5 0) (I 0) fun r6 =>
    xad r6
     (xaj 4 a1 (atP o5 0) fun c7 =>
     call Qdo [.agg (s4 c7)] fun o8 =>
     call Qis [.one a1,.one a2] fun o9 =>
     rt g1 [(atP o4 0),(.bool true),(atP o8 0),(atP o8 1),(atP o8 2),(atP o8 3),(atP o9 0),(atP o9 1),(I 0),(.str ⟨#[]⟩),(I 0),(I 0),(.list 1 []),(.str ⟨#[]⟩),(I 0),(I 0),(.list 1 []),(I 0),(.list 1 []),(I 0),(.list 1 [])] k)
     (call Qiu [.one a1,.one a2] fun o10 =>
     rt g1 [(atP o4 0),(.bool false),(.str ⟨#[]⟩),(I 0),(I 0),(.list 1 []),(I 0),(.list 1 []),(atP o10 0),(atP o10 1),(atP o10 2),(atP o10 3),(atP o10 4),(atP o10 5),(atP o10 6),(atP o10 7),(atP o10 8),(atP o10 9),(atP o10 10),(atP o10 11),(atP o10 12)] k)))) u0
 | _,_=>False
theorem Qiv_w:EO ⟨[252],Qiv⟩:=oFz (ec Qgh_w (ec Qfl_w (ec Qdm_w (ec Qiq_w (ec Qdo_w (ec Qis_w (ec Qiu_w en))))))) func252 fun av k h=>by
 unfold Qiv at h;split at h
 ·apply xab h;clear h;intro a0 a1 h;exact km h
 ·exact h.elim
def Qiw:GM
 | [.agg u0,.one a2,.one a3],k=>un 2 (fun a0 a1 =>
  call Qin [.agg [a0,a1],.one a2] fun o0 =>
  xac .lss (atP o0 0) (I 0) fun r1 =>
  xad r1
   (rt g1 [(.list 17 []),(.bool false),(.str ⟨#[]⟩),(I 0),(I 0),(.list 1 []),(I 0),(.list 1 []),(I 0),(.str ⟨#[]⟩),(I 0),(I 0),(.list 1 []),(.str ⟨#[]⟩),(I 0),(I 0),(.list 1 []),(I 0),(.list 1 []),(I 0),(.list 1 [])] k)
   (xac .eql a1 (I 4) fun r2 =>
   xad r2
    (rt g1 [(.list 17 []),(.bool false),(.str ⟨#[]⟩),(I 0),(I 0),(.list 1 []),(I 0),(.list 1 []),(I 0),(.str ⟨#[]⟩),(I 0),(I 0),(.list 1 []),(.str ⟨#[]⟩),(I 0),(I 0),(.list 1 []),(I 0),(.list 1 []),(I 0),(.list 1 [])] k)
    (xaj 2 a0 (atP o0 0) fun c3 =>
    call Qiv [.agg [(atP c3 0),(atP c3 1)],.one a3] fun o4 =>
    xac .eql a1 (I 1) fun r5 =>
    xad r5
     (xac .add (atP o4 4) (I 1) fun r6 =>
     rt g1 [(atP o4 0),(atP o4 1),(atP o4 2),(atP o4 3),r6,(atP o4 5),(atP o4 6),(atP o4 7),(atP o4 8),(atP o4 9),(atP o4 10),(atP o4 11),(atP o4 12),(atP o4 13),(atP o4 14),(atP o4 15),(atP o4 16),(atP o4 17),(atP o4 18),(atP o4 19),(atP o4 20)] k)
     (xac .eql a1 (I 2) fun r7 =>
     xad r7
      (xaH (atP o4 0) fun r8 =>
      xac .sub r8 (I 1) fun r9 =>
      xtK (I 0) r9 fun r10 =>
      xgE r10 fun n11 =>
      xfS 17 (atP o4 0) none (some n11) fun r12 =>
      rt g1 [r12,(atP o4 1),(atP o4 2),(atP o4 3),(atP o4 4),(atP o4 5),(atP o4 6),(atP o4 7),(atP o4 8),(atP o4 9),(atP o4 10),(atP o4 11),(atP o4 12),(atP o4 13),(atP o4 14),(atP o4 15),(atP o4 16),(atP o4 17),(atP o4 18),(atP o4 19),(atP o4 20)] k)
      (xac .eql a1 (I 3) fun r13 =>
      xad r13
       (rt g1 [(atP o4 0),(.bool false),(.str ⟨#[]⟩),(I 0),(I 0),(.list 1 []),(I 0),(.list 1 []),(I 0),(.str ⟨#[]⟩),(I 0),(I 0),(.list 1 []),(.str ⟨#[]⟩),(I 0),(I 0),(.list 1 []),(I 0),(.list 1 []),(I 0),(.list 1 [])] k)
       (rt g1 (s21 o4) k)))))) u0
 | _,_=>False
theorem Qiw_w:EO ⟨[180],Qiw⟩:=oMz (ec Qin_w (ec Qiv_w en)) func180 fun av k h=>by
 unfold Qiw at h;split at h
 ·apply xab h;clear h;intro a0 a1 h;exact km h
 ·exact h.elim
def Qix:GM
 | [.one a0],k =>
  call Qfj [.one a0] fun o0 =>
  unP .not (atP o0 0) fun r1 =>
  xad r1
   (rt g25 [(I 0),(I 0),(I 0),(I 0),(I 0),(I 0),(I 0),(I 0),(.list 1 []),(I 0),(.list 1 []),(I 0),(I 0),(.list 1 []),(I 0),(.bool false),(.bool false)] k)
   (call Qfk [.one a0] fun o2 =>
   call Qdj [.agg (s16 o2)] fun o3 =>
   rt g25 [(atP o3 0),(atP o3 1),(atP o3 2),(atP o3 3),(atP o3 4),(atP o3 5),(atP o3 6),(atP o3 7),(atP o3 8),(atP o3 9),(atP o3 10),(atP o3 11),(atP o3 12),(atP o3 13),(atP o3 14),(atP o3 15),(.bool true)] k)
 | _,_=>False
theorem Qix_w:EO ⟨[288],Qix⟩:=oFz (ec Qfj_w (ec Qfk_w (ec Qdj_w en))) func288 fun av k h=>by
 unfold Qix at h;split at h
 ·exact km h
 ·exact h.elim
def Qiy:GM
 | [.agg u0,.one a16],k=>un 16 (fun a0 a1 a2 a3 a4 a5 a6 a7 a8 a9 a10 a11 a12 a13 a14 a15 =>
  call Qdw [.one a16,.one a3,.one a4] fun o0 =>
  rt [.sc] [(atP o0 0)] k) u0
 | _,_=>False
theorem Qiy_w:EO ⟨[289],Qiy⟩:=oFz (ec Qdw_w en) func289 fun av k h=>by
 unfold Qiy at h;split at h
 ·apply xab h;clear h;(repeat intro _);rename_i h;exact km h
 ·exact h.elim
def Qiz_r0 (v:List PV) (K:List PV→Prop) (x0k:Prop) (x1k:Cur 6):Prop :=
 un 6 (fun v0 v1 v2 v3 v4 v5 =>
  xac .gtr v2 (I 1) fun r0 =>
  xad r0
   (xac .xor v1 (I 1) fun r1 =>
   xac .geq r1 v2 fun r2 =>
   xad r2
    (xac .quo v1 (I 2) fun r3 =>
    xac .add v2 (I 1) fun r4 =>
    xac .quo r4 (I 2) fun r5 =>
    K [v0,r3,r5,v3,v4,v5])
    (xaH v3 fun r6 =>
    xac .eql r6 (I 0) fun r7 =>
    xad r7
     (x0k)
     (xac .rem v1 (I 2) fun r8 =>
     xac .eql r8 (I 0) fun r9 =>
     xad r9
      (xaj 1 v3 (I 0) fun c10 =>
      call Qgb [.one v0,.one (atP c10 0)] fun o11 =>
      xgE (I 1) fun n12 =>
      xfS 1 v3 (some n12) none fun r13 =>
      xac .quo v1 (I 2) fun r14 =>
      xac .add v2 (I 1) fun r15 =>
      xac .quo r15 (I 2) fun r16 =>
      K [(atP o11 0),r14,r16,r13,v4,v5])
      (xaj 1 v3 (I 0) fun c17 =>
      call Qgb [.one (atP c17 0),.one v0] fun o18 =>
      xgE (I 1) fun n19 =>
      xfS 1 v3 (some n19) none fun r20 =>
      xac .quo v1 (I 2) fun r21 =>
      xac .add v2 (I 1) fun r22 =>
      xac .quo r22 (I 2) fun r23 =>
      K [(atP o18 0),r21,r23,r20,v4,v5]))))
   (x1k v0 v1 v2 v3 v4 v5)) v
def Qiz:GM
 | [.one a0,.one a1,.one a2,.one a3],k =>
  xac .lss a2 (I 1) fun r0 =>
  xad r0
   (rt [.sc,.sc] [(I 0),(.bool false)] k)
   (xac .gtr a2 (I 12) fun r1 =>
   xad r1
    (rt [.sc,.sc] [(I 0),(.bool false)] k)
    (xac .sub a2 (I 1) fun r2 =>
    call Qdw [.one a1,.one (I 0),.one r2] fun o3 =>
    unP .not (atP o3 0) fun r4 =>
    xad r4
     (rt [.sc,.sc] [(I 0),(.bool false)] k)
     (lp (fun L w=>Qiz_r0 w L
      (rt [.sc,.sc] [(I 0),(.bool false)] k)
      (fun q24 q25 q26 q27 q28 q29=>xaH q27 fun r30 =>
       xac .gtr r30 (I 0) fun r31 =>
       xad r31
        (rt [.sc,.sc] [(I 0),(.bool false)] k)
        (rt [.sc,.sc] [q24,(.bool true)] k))) [a0,a1,a2,a3,(I 0),(.bool false)])))
 | _,_=>False
def Qiz_l:List LE:=[⟨none,0,⟨[(0,.one zB),(1,.one zB),(2,.one zB),(3,.one zB),(8,.one zB),(9,.one zB)],[],[],1,56,[]⟩,fun K k v=>Qiz_r0 v K (k .ret ⟨[(8,.one (.pv (I 0))),(9,.one (.kb false))],[],[],1,56,[]⟩) (fun x0 x1 x2 x3 x4 x5=>k (.exit 0) ⟨[(0,.one (.pv x0)),(1,.one (.pv x1)),(2,.one (.pv x2)),(3,.one (.pv x3)),(8,.one (.pv x4)),(9,.one (.pv x5))],[],[],1,56,[]⟩)⟩]
theorem Qiz_s:xaE [⟨[266],Qdw⟩,⟨[422],Qgb⟩] TT.nofl (kk [0,1,2,3,8,9,999999]) Qiz_l f392 Qiz_l:=⟨fun v K k h=>by
 apply xab h;exact fun v0 v1 v2 v3 v4 v5 h=>km h
 ,trivial⟩
theorem Qiz_w:EO ⟨[392],Qiz⟩:=oF (ec Qdw_w (ec Qgb_w en)) (keep:=(kk [0,1,2,3,8,9,999999])) (l:=Qiz_l) func392 Qiz_s fun av k h=>by
 unfold Qiz at h;split at h
 ·exact km h
 ·exact h.elim
def Qja:GM
 | [.one a0,.one a1,.agg u0,.agg u1],k=>un 4 (fun a2 a3 a4 a5=>un 2 (fun a6 a7 =>
  call Qfy [.agg [a2,a3,a4,a5]] fun o0 =>
  call Qiz [.one (atP o0 0),.one a6,.one a1,.one a7] fun o1 =>
  xad (atP o1 1)
   (call Qfq [.agg [a2,a3,a4,a5]] fun o2 =>
   xad (atP o2 0)
    (call Qge [.one a1,.one (atP o1 0)] fun o3 =>
    xac .eql (atP o3 0) a0 fun r4 =>
    rt [.sc] [r4] k)
    (rt [.sc] [(.bool false)] k))
   (rt [.sc] [(.bool false)] k)) u1) u0
 | _,_=>False
theorem Qja_w:EO ⟨[341],Qja⟩:=oFz (ec Qfy_w (ec Qiz_w (ec Qfq_w (ec Qge_w en)))) func341 fun av k h=>by
 unfold Qja at h;split at h
 ·apply xab h;clear h;intro a2 a3 a4 a5 h;apply xab h;clear h;intro a6 a7 h;exact km h
 ·exact h.elim
def Qjb_r0 (v:List PV) (K:List PV→Prop) (x0k:Prop) (x1k:Cur 5):Prop :=
 un 5 (fun v0 v1 v2 v3 v4 =>
  xac .lss v4 v3 fun r0 =>
  xad r0
   (xaj 1 v0 v4 fun c1 =>
   xaj 1 v1 v4 fun c2 =>
   xac .neq (atP c1 0) (atP c2 0) fun r3 =>
   xad r3
    (x0k)
    (xac .add v4 (I 1) fun r4 =>
    K [v0,v1,v2,v3,r4]))
   (x1k v0 v1 v2 v3 v4)) v
def Qjb:GM
 | [.one a0,.one a1],k =>
  xaH a0 fun r0 =>
  xaH a1 fun r1 =>
  xac .neq r0 r1 fun r2 =>
  xad r2
   (rt [.sc] [(.bool false)] k)
   (xaH a0 fun r3 =>
   lp (fun L w=>Qjb_r0 w L
    (rt [.sc] [(.bool false)] k)
    (fun q5 q6 q7 q8 q9=>rt [.sc] [(.bool true)] k)) [a0,a1,(.bool false),r3,(I 0)])
 | _,_=>False
def Qjb_l:List LE:=[⟨none,0,⟨[(0,.one zB),(1,.one zB),(4,.one zB),(12,.one zB),(13,.one zB)],[],[],0,26,[]⟩,fun K k v=>Qjb_r0 v K (k .ret ⟨[(4,.one (.kb false))],[],[],0,26,[]⟩) (fun x0 x1 x2 x3 x4=>k (.exit 0) ⟨[(0,.one (.pv x0)),(1,.one (.pv x1)),(4,.one (.pv x2)),(12,.one (.pv x3)),(13,.one (.pv x4))],[],[],0,26,[]⟩)⟩]
theorem Qjb_s:xaE [] TT (kk [0,1,4,12,13]) Qjb_l f424 Qjb_l:=⟨fun v K k h=>by
 apply xab h;exact fun v0 v1 v2 v3 v4 h=>km h
 ,trivial⟩
theorem Qjb_w:EO ⟨[424],Qjb⟩:=oN en (keep:=(kk [0,1,4,12,13])) (l:=Qjb_l) func424 Qjb_s fun av k h=>by
 unfold Qjb at h;split at h
 ·exact km h
 ·exact h.elim
def Qjc:GM
 | [.agg u0,.agg u1],k=>un 4 (fun a0 a1 a2 a3=>un 4 (fun a4 a5 a6 a7 =>
  xac .eql a0 a4 fun r0 =>
  xad r0
   (xac .eql a1 a5 fun r1 =>
   xad r1
    (xac .eql a2 a6 fun r2 =>
    xad r2
     (call Qjb [.one a3,.one a7] fun o3 =>
     rt [.sc] [(atP o3 0)] k)
     (rt [.sc] [(.bool false)] k))
    (rt [.sc] [(.bool false)] k))
   (rt [.sc] [(.bool false)] k)) u1) u0
 | _,_=>False
theorem Qjc_w:EO ⟨[394],Qjc⟩:=oFz (ec Qjb_w en) func394 fun av k h=>by
 unfold Qjc at h;split at h
 ·apply xab h;clear h;intro a0 a1 a2 a3 h;apply xab h;clear h;intro a4 a5 a6 a7 h;exact km h
 ·exact h.elim
def Qjd:GM
 | [.agg u0,.agg u1],k=>un 2 (fun a0 a1=>un 2 (fun a2 a3 =>
  xac .eql a0 a2 fun r0 =>
  xad r0
   (call Qfb [.one a1,.one a3] fun o1 =>
   rt [.sc] [(atP o1 0)] k)
   (rt [.sc] [(.bool false)] k)) u1) u0
 | _,_=>False
theorem Qjd_w:EO ⟨[395],Qjd⟩:=oFz (ec Qfb_w en) func395 fun av k h=>by
 unfold Qjd at h;split at h
 ·apply xab h;clear h;intro a0 a1 h;apply xab h;clear h;intro a2 a3 h;exact km h
 ·exact h.elim
def Qje:GM
 | [.agg u0,.agg u1],k=>un 13 (fun a0 a1 a2 a3 a4 a5 a6 a7 a8 a9 a10 a11 a12=>un 13 (fun a13 a14 a15 a16 a17 a18 a19 a20 a21 a22 a23 a24 a25 =>
  xac .eql a0 a13 fun r0 =>
  xad r0
   (call Qjc [.agg [a1,a2,a3,a4],.agg [a14,a15,a16,a17]] fun o1 =>
   xad (atP o1 0)
    (call Qjc [.agg [a5,a6,a7,a8],.agg [a18,a19,a20,a21]] fun o2 =>
    xad (atP o2 0)
     (call Qjd [.agg [a9,a10],.agg [a22,a23]] fun o3 =>
     xad (atP o3 0)
      (call Qjd [.agg [a11,a12],.agg [a24,a25]] fun o4 =>
      rt [.sc] [(atP o4 0)] k)
      (rt [.sc] [(.bool false)] k))
     (rt [.sc] [(.bool false)] k))
    (rt [.sc] [(.bool false)] k))
   (rt [.sc] [(.bool false)] k)) u1) u0
 | _,_=>False
theorem Qje_w:EO ⟨[342],Qje⟩:=oFz (ec Qjc_w (ec Qjd_w en)) func342 fun av k h=>by
 unfold Qje at h;split at h
 ·apply xab h;clear h;(repeat intro _);rename_i h;apply xab h;clear h;(repeat intro _);rename_i h;exact km h
 ·exact h.elim
def Qjf:GM
 | [.agg u0],k=>un 4 (fun a0 a1 a2 a3 =>
  call Qjc [.agg [a0,a1,a2,a3],.agg [(.str ⟨#[]⟩),(I 0),(I 0),(.list 1 [])]] fun o0 =>
  rt [.sc] [(atP o0 0)] k) u0
 | _,_=>False
theorem Qjf_w:EO ⟨[344],Qjf⟩:=oFz (ec Qjc_w en) func344 fun av k h=>by
 unfold Qjf at h;split at h
 ·apply xab h;clear h;intro a0 a1 a2 a3 h;exact km h
 ·exact h.elim
def Qjg:GM
 | [.agg u0],k=>un 2 (fun a0 a1 =>
  call Qjd [.agg [a0,a1],.agg [(I 0),(.list 1 [])]] fun o0 =>
  rt [.sc] [(atP o0 0)] k) u0
 | _,_=>False
theorem Qjg_w:EO ⟨[345],Qjg⟩:=oFz (ec Qjd_w en) func345 fun av k h=>by
 unfold Qjg at h;split at h
 ·apply xab h;clear h;intro a0 a1 h;exact km h
 ·exact h.elim
def Qjh:GM
 | [.one a0,.one a1,.agg u0,.agg u1,.one a8],k=>un 4 (fun a2 a3 a4 a5=>un 2 (fun a6 a7 =>
  xac .sub a1 (I 1) fun r0 =>
  call Qdw [.one a8,.one (I 0),.one r0] fun o1 =>
  unP .not (atP o1 0) fun r2 =>
  xad r2
   (call Qjf [.agg [a2,a3,a4,a5]] fun o3 =>
   xad (atP o3 0)
    (call Qjg [.agg [a6,a7]] fun o4 =>
    rt [.sc] [(atP o4 0)] k)
    (rt [.sc] [(.bool false)] k))
   (call Qja [.one a0,.one a1,.agg [a2,a3,a4,a5],.agg [a6,a7]] fun o5 =>
   xad (atP o5 0)
    (xac .eql a6 a8 fun r6 =>
    rt [.sc] [r6] k)
    (rt [.sc] [(.bool false)] k))) u1) u0
 | _,_=>False
theorem Qjh_w:EO ⟨[396],Qjh⟩:=oFz (ec Qdw_w (ec Qjf_w (ec Qjg_w (ec Qja_w en)))) func396 fun av k h=>by
 unfold Qjh at h;split at h
 ·apply xab h;clear h;intro a2 a3 a4 a5 h;apply xab h;clear h;intro a6 a7 h;exact km h
 ·exact h.elim
def Qji:GM
 | [.one a0,.one a1,.one a2,.agg u0],k=>un 13 (fun a3 a4 a5 a6 a7 a8 a9 a10 a11 a12 a13 a14 a15 =>
  let F1:=xac .eql a3 a1 fun r13 =>
   xad r13
   (rt [.sc] [(.bool true)] k)
   (call Qft [.one a8,.one a2] fun o14 =>
   xac .gtr (atP o14 0) (I 0) fun r15 =>
   rt [.sc] [r15] k)
  let F0:=xac .sub a3 (I 1) fun r7 =>
   call Qjh [.one a0,.one a1,.agg [a4,a5,a6,a7],.agg [a12,a13],.one r7] fun o8 =>
   unP .not (atP o8 0) fun r9 =>
   xad r9
   (rt [.sc] [(.bool false)] k)
   (call Qjh [.one a0,.one a1,.agg [a8,a9,a10,a11],.agg [a14,a15],.one a3] fun o10 =>
   unP .not (atP o10 0) fun r11 =>
   xad r11
   (rt [.sc] [(.bool false)] k)
   (xac .eql a3 (I 0) fun r12 =>
   xad r12
   (F1)
   (call Qft [.one a4,.one a2] fun o16 =>
   xac .lss (atP o16 0) (I 0) fun r17 =>
   xad r17
   (F1)
   (rt [.sc] [(.bool false)] k))))
  call Qfl [.one a2] fun o0 =>
  unP .not (atP o0 0) fun r1 =>
  xad r1
   (rt [.sc] [(.bool false)] k)
   (call Qdw [.one a3,.one (I 0),.one a1] fun o2 =>
   unP .not (atP o2 0) fun r3 =>
   xad r3
    (rt [.sc] [(.bool false)] k)
    (xac .eql a1 (I 0) fun r4 =>
    xad r4
     (call Qgf [.one (.list 4 [])] fun o5 =>
     xac .neq a0 (atP o5 0) fun r6 =>
     xad r6
      (rt [.sc] [(.bool false)] k)
      (F0))
     (F0)))) u0
 | _,_=>False
theorem Qji_w:EO ⟨[343],Qji⟩:=oFz (ec Qfl_w (ec Qdw_w (ec Qgf_w (ec Qjh_w (ec Qft_w en))))) func343 fun av k h=>by
 unfold Qji at h;split at h
 ·apply xab h;clear h;(repeat intro _);rename_i h;exact km h
 ·exact h.elim
def Qjj:GM
 | [.agg u0,.one a16,.agg u1],k=>un 16 (fun a0 a1 a2 a3 a4 a5 a6 a7 a8 a9 a10 a11 a12 a13 a14 a15=>un 21 (fun a17 a18 a19 a20 a21 a22 a23 a24 a25 a26 a27 a28 a29 a30 a31 a32 a33 a34 a35 a36 a37 =>
  xad a18
   (xac .eql a19 a16 fun r0 =>
   xad r0
    (call Qja [.one a6,.one a5,.agg [a19,a20,a21,a22],.agg [a23,a24]] fun o1 =>
    xad (atP o1 0)
     (call Qje [.agg [a25,a26,a27,a28,a29,a30,a31,a32,a33,a34,a35,a36,a37],.agg [(I 0),(.str ⟨#[]⟩),(I 0),(I 0),(.list 1 []),(.str ⟨#[]⟩),(I 0),(I 0),(.list 1 []),(I 0),(.list 1 []),(I 0),(.list 1 [])]] fun o2 =>
     rt [.sc] [(atP o2 0)] k)
     (rt [.sc] [(.bool false)] k))
    (rt [.sc] [(.bool false)] k))
   (call Qji [.one a6,.one a5,.one a16,.agg [a25,a26,a27,a28,a29,a30,a31,a32,a33,a34,a35,a36,a37]] fun o3 =>
   xad (atP o3 0)
    (call Qjf [.agg [a19,a20,a21,a22]] fun o4 =>
    xad (atP o4 0)
     (call Qjg [.agg [a23,a24]] fun o5 =>
     rt [.sc] [(atP o5 0)] k)
     (rt [.sc] [(.bool false)] k))
    (rt [.sc] [(.bool false)] k))) u1) u0
 | _,_=>False
theorem Qjj_w:EO ⟨[290],Qjj⟩:=oFz (ec Qja_w (ec Qje_w (ec Qji_w (ec Qjf_w (ec Qjg_w en))))) func290 fun av k h=>by
 unfold Qjj at h;split at h
 ·apply xab h;clear h;(repeat intro _);rename_i h;apply xab h;clear h;(repeat intro _);rename_i h;exact km h
 ·exact h.elim
def Qjk:GM
 | [.one a0,.one a1,.agg u0,.one a23],k=>un 21 (fun a2 a3 a4 a5 a6 a7 a8 a9 a10 a11 a12 a13 a14 a15 a16 a17 a18 a19 a20 a21 a22 =>
  call Qix [.one a2] fun o0 =>
  unP .not (atP o0 16) fun r1 =>
  xad r1
   (rt [.sc] [(I 3)] k)
   (xac .neq (atP o0 0) a0 fun r2 =>
   xad r2
    (rt [.sc] [(I 2)] k)
    (call Qiy [.agg [(atP o0 0),(atP o0 1),(atP o0 2),(atP o0 3),(atP o0 4),(atP o0 5),(atP o0 6),(atP o0 7),(atP o0 8),(atP o0 9),(atP o0 10),(atP o0 11),(atP o0 12),(atP o0 13),(atP o0 14),(atP o0 15)],.one a23] fun o3 =>
    unP .not (atP o3 0) fun r4 =>
    xad r4
     (rt [.sc] [(I 4)] k)
     (xad (atP o0 15)
      (rt [.sc] [(I 5)] k)
      (call Qjj [.agg [(atP o0 0),(atP o0 1),(atP o0 2),(atP o0 3),(atP o0 4),(atP o0 5),(atP o0 6),(atP o0 7),(atP o0 8),(atP o0 9),(atP o0 10),(atP o0 11),(atP o0 12),(atP o0 13),(atP o0 14),(atP o0 15)],.one a1,.agg [a2,a3,a4,a5,a6,a7,a8,a9,a10,a11,a12,a13,a14,a15,a16,a17,a18,a19,a20,a21,a22]] fun o5 =>
      unP .not (atP o5 0) fun r6 =>
      xad r6
       (rt [.sc] [(I 6)] k)
       (rt [.sc] [(I 1)] k)))))) u0
 | _,_=>False
theorem Qjk_w:EO ⟨[230],Qjk⟩:=oFz (ec Qix_w (ec Qiy_w (ec Qjj_w en))) func230 fun av k h=>by
 unfold Qjk at h;split at h
 ·apply xab h;clear h;(repeat intro _);rename_i h;exact km h
 ·exact h.elim
def Qjl:GM
 | [.one a0,.ro (.cells u0)],k=>un 1 (fun a1 =>
  xaH a0 fun r0 =>
  xac .gtr r0 (I 0) fun r1 =>
  xad r1
   (xaj 17 a0 (I 0) fun c2 =>
   xac .eql (atP c2 0) a1 fun r3 =>
   rt [.sc] [r3] k)
   (rt [.sc] [(.bool false)] k)) u0
 | _,_=>False
theorem Qjl_w:EO ⟨[387],Qjl⟩:=oFz en func387 fun av k h=>by
 unfold Qjl at h;split at h
 ·apply xab h;clear h;intro a1 h;exact km h
 ·exact h.elim
end Go.Ev
