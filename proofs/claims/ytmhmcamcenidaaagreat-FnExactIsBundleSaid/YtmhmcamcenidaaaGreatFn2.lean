/- The tables of this load, and for each function the meaning that the evaluator gives it, with its proof, part 2. -/
import Derived.Test.YtmhmcamcenidaaaGreatFn1
set_option maxRecDepth 100000
set_option linter.unusedVariables false
namespace Go.Ev
open Go.Proofs
def Qdp_r0 (v:List PV) (K:List PV→Prop) (x0k:PV→PV→PV→PV→PV→PV→PV→PV→PV→Prop):Prop :=
 un 9 (fun v0 v1 v2 v3 v4 v5 v6 v7 v8 =>
  binP .lss v2 v1 fun r0 =>
  iteP r0
   (elemP 1 v0 v2 fun c1 =>
   call Qdl [.one (atP c1 0)] fun o2 =>
   (1=1)∧(1≤16777216)∧(1=1)∧(0=0)∧(1=1)∧(flatCond [.nil 257 17] [.own 7])∧catP 1 v8 (.list 1 [[(atP o2 0)]]) fun r3 =>
   binP .add v2 (I 1) fun r4 =>
   K [v0,v1,r4,v3,v4,v5,v6,v7,r3])
   (x0k v0 v1 v2 v3 v4 v5 v6 v7 v8)) v
def Qdp_r1 (v:List PV) (K:List PV→Prop) (x0k:PV→PV→PV→PV→PV→PV→PV→PV→PV→PV→PV→PV→Prop):Prop :=
 un 12 (fun v0 v1 v2 v3 v4 v5 v6 v7 v8 v9 v10 v11 =>
  binP .lss v5 v4 fun r0 =>
  iteP r0
   (elemP 51 v3 v5 fun c1 =>
   call Qdo [.agg [(atP c1 0),(atP c1 1),(atP c1 2),(atP c1 3),(atP c1 4),(atP c1 5),(atP c1 6),(atP c1 7),(atP c1 8),(atP c1 9),(atP c1 10),(atP c1 11),(atP c1 12),(atP c1 13),(atP c1 14),(atP c1 15),(atP c1 16),(atP c1 17),(atP c1 18),(atP c1 19),(atP c1 20),(atP c1 21),(atP c1 22),(atP c1 23),(atP c1 24),(atP c1 25),(atP c1 26),(atP c1 27),(atP c1 28),(atP c1 29),(atP c1 30),(atP c1 31),(atP c1 32),(atP c1 33),(atP c1 34),(atP c1 35),(atP c1 36),(atP c1 37),(atP c1 38),(atP c1 39),(atP c1 40),(atP c1 41),(atP c1 42),(atP c1 43),(atP c1 44),(atP c1 45),(atP c1 46),(atP c1 47),(atP c1 48),(atP c1 49),(atP c1 50)]] fun o2 =>
   (1=1)∧(51≤16777216)∧(51=51)∧(0=0)∧(51=51)∧(flatCond [.pv (I 0),.pv (I 0),.pv (I 0),.pv (I 0),.pv (I 0),.pv (I 0),.pv (I 0),.pv (I 0),.nil 3 1,.pv (I 0),.nil 3 1,.pv (I 0),.pv (I 0),.nil 3 1,.pv (I 0),zB,.nil 317 2,.pv (I 0),.pv (I 0),.pv (I 0),.pv (I 0),.pv (I 0),.pv (I 0),.pv (I 0),.pv (I 0),.nil 3 1,.pv (I 0),.nil 3 1,.pv (I 0),.pv (I 0),.nil 3 1,.pv (I 0),zB,.nil 317 2,.pv (I 0),.pv (I 0),.pv (I 0),.pv (I 0),.pv (I 0),.pv (I 0),.pv (I 0),.pv (I 0),.nil 3 1,.pv (I 0),.nil 3 1,.pv (I 0),.pv (I 0),.nil 3 1,.pv (I 0),zB,.nil 317 2] [.pv (atP o2 0),.pv (atP o2 1),.pv (atP o2 2),.pv (atP o2 3),.pv (atP o2 4),.pv (atP o2 5),.pv (atP o2 6),.pv (atP o2 7),.own 16,.pv (atP o2 9),.own 18,.pv (atP o2 11),.pv (atP o2 12),.own 21,.pv (atP o2 14),.pv (atP o2 15),.own 24,.pv (atP o2 17),.pv (atP o2 18),.pv (atP o2 19),.pv (atP o2 20),.pv (atP o2 21),.pv (atP o2 22),.pv (atP o2 23),.pv (atP o2 24),.own 33,.pv (atP o2 26),.own 35,.pv (atP o2 28),.pv (atP o2 29),.own 38,.pv (atP o2 31),.pv (atP o2 32),.own 41,.pv (atP o2 34),.pv (atP o2 35),.pv (atP o2 36),.pv (atP o2 37),.pv (atP o2 38),.pv (atP o2 39),.pv (atP o2 40),.pv (atP o2 41),.own 50,.pv (atP o2 43),.own 52,.pv (atP o2 45),.pv (atP o2 46),.own 55,.pv (atP o2 48),.pv (atP o2 49),.own 58])∧catP 51 v10 (.list 51 [[(atP o2 0),(atP o2 1),(atP o2 2),(atP o2 3),(atP o2 4),(atP o2 5),(atP o2 6),(atP o2 7),(atP o2 8),(atP o2 9),(atP o2 10),(atP o2 11),(atP o2 12),(atP o2 13),(atP o2 14),(atP o2 15),(atP o2 16),(atP o2 17),(atP o2 18),(atP o2 19),(atP o2 20),(atP o2 21),(atP o2 22),(atP o2 23),(atP o2 24),(atP o2 25),(atP o2 26),(atP o2 27),(atP o2 28),(atP o2 29),(atP o2 30),(atP o2 31),(atP o2 32),(atP o2 33),(atP o2 34),(atP o2 35),(atP o2 36),(atP o2 37),(atP o2 38),(atP o2 39),(atP o2 40),(atP o2 41),(atP o2 42),(atP o2 43),(atP o2 44),(atP o2 45),(atP o2 46),(atP o2 47),(atP o2 48),(atP o2 49),(atP o2 50)]]) fun r3 =>
   binP .add v5 (I 1) fun r4 =>
   K [v0,v1,v2,v3,v4,r4,v6,v7,v8,v9,r3,v11])
   (x0k v0 v1 v2 v3 v4 v5 v6 v7 v8 v9 v10 v11)) v
def Qdp:GM
 | [.agg u0],k=>un 2 (fun a0 a1 =>
  lenP a0 fun r0 =>
  lp (fun L w=>Qdp_r0 w L
   (fun q5 q6 q7 q8 q9 q10 q11 q12 q13=>lenP q9 fun r14 =>
    lp (fun L w=>Qdp_r1 w L
     (fun q15 q16 q17 q18 q19 q20 q21 q22 q23 q24 q25 q26=>rt [.own true 90 1,.own true 259 51] [q26,q25] k)) [q5,q6,q7,q9,r14,(I 0),q8,q9,q10,q11,q12,q13])) [a0,r0,(I 0),a0,a1,(.list 51 []),(.list 1 []),(.list 51 []),(.list 1 [])]) u0
 | _,_=>False
abbrev Qdp_e:Ent:=⟨[198],Qdp⟩
def Qdp_l:List LE:=[⟨none,0,⟨[(1,.one (.ptr 0 0)),(2,.one (.ptr 1 0)),(3,.one (.ptr 2 0)),(10,.one zB),(11,.one zB),(12,.one zB)],[(2,[.own 3,.own 4]),(1,[.own 5,.own 6]),(0,[zB,zB])],[(6,⟨.deep,259,51,(.bool false)⟩),(5,⟨.deep,90,1,(.bool false)⟩),(4,⟨.deep,259,51,(.bool false)⟩),(3,⟨.deep,90,1,(.bool false)⟩)],7,40,[]⟩,fun K k v=>Qdp_r0 v K (fun x0 x1 x2 x3 x4 x5 x6 x7 x8=>k (.exit 0) ⟨[(1,.one (.ptr 0 0)),(2,.one (.ptr 1 0)),(3,.one (.ptr 2 0)),(10,.one (.pv x0)),(11,.one (.pv x1)),(12,.one (.pv x2))],[(2,[.own 3,.own 4]),(1,[.own 5,.own 6]),(0,[.pv x3,.pv x4])],[(6,⟨.deep,259,51,x5⟩),(5,⟨.deep,90,1,x6⟩),(4,⟨.deep,259,51,x7⟩),(3,⟨.deep,90,1,x8⟩)],7,40,[]⟩)⟩,
 ⟨none,1,⟨[(1,.one (.ptr 0 0)),(2,.one (.ptr 1 0)),(3,.one (.ptr 2 0)),(10,.one zB),(11,.one zB),(12,.one zB),(25,.one zB),(26,.one zB),(27,.one zB)],[(2,[.own 3,.own 4]),(1,[.own 5,.own 6]),(0,[zB,zB])],[(6,⟨.deep,259,51,(.bool false)⟩),(5,⟨.deep,90,1,(.bool false)⟩),(4,⟨.deep,259,51,(.bool false)⟩),(3,⟨.deep,90,1,(.bool false)⟩)],7,40,[]⟩,fun K k v=>Qdp_r1 v K (fun x0 x1 x2 x3 x4 x5 x6 x7 x8 x9 x10 x11=>k (.exit 2) ⟨[(1,.one (.ptr 0 0)),(2,.one (.ptr 1 0)),(3,.one (.ptr 2 0)),(10,.one (.pv x0)),(11,.one (.pv x1)),(12,.one (.pv x2)),(25,.one (.pv x3)),(26,.one (.pv x4)),(27,.one (.pv x5))],[(2,[.own 3,.own 4]),(1,[.own 5,.own 6]),(0,[.pv x6,.pv x7])],[(6,⟨.deep,259,51,x8⟩),(5,⟨.deep,90,1,x9⟩),(4,⟨.deep,259,51,x10⟩),(3,⟨.deep,90,1,x11⟩)],7,40,[]⟩)⟩]
theorem Qdp_s:LEsOK [Qdl_e,Qdo_e] TT.nofl (kk [1,2,3,10,11,12,25,26,27,999999]) Qdp_l Tryz.f198 Qdp_l:=⟨fun v K k h=>by
 apply un_all h;exact fun v0 v1 v2 v3 v4 v5 v6 v7 v8 h=>km h
 ,fun v K k h=>by
 apply un_all h;exact fun v0 v1 v2 v3 v4 v5 v6 v7 v8 v9 v10 v11 h=>km h
 ,trivial⟩
theorem Qdp_w:EntOK Tryz.prog TT Qdp_e:=okF_ tabok (L:=[Qdl_e,Qdo_e]) ⟨Qdl_w,Qdo_w,trivial⟩ (keep:=(kk [1,2,3,10,11,12,25,26,27,999999])) (l:=Qdp_l) Tryz.func198 Qdp_s fun av k h=>by
 unfold Qdp at h;split at h
 ·apply un_all h;clear h;intro a0 a1 h;exact km h
 ·exact h.elim
def Qdq:GM
 | [.agg u0],k=>un 2 (fun a0 a1 =>
  call Qdg [.one a1] fun o0 =>
  rt [.sc,.own true 3 1] [a0,(atP o0 0)] k) u0
 | _,_=>False
abbrev Qdq_e:Ent:=⟨[246],Qdq⟩
theorem Qdq_w:EntOK Tryz.prog TT Qdq_e:=okF_ tabok (L:=[Qdg_e]) ⟨Qdg_w,trivial⟩ (keep:=[]) (l:=[]) Tryz.func246 trivial fun av k h=>by
 unfold Qdq at h;split at h
 ·apply un_all h;clear h;intro a0 a1 h;exact km h
 ·exact h.elim
def Qdr:GM
 | [.agg u0],k=>un 13 (fun a0 a1 a2 a3 a4 a5 a6 a7 a8 a9 a10 a11 a12 =>
  call Qdn [.agg [a1,a2,a3,a4]] fun o0 =>
  call Qdn [.agg [a5,a6,a7,a8]] fun o1 =>
  call Qdq [.agg [a9,a10]] fun o2 =>
  call Qdq [.agg [a11,a12]] fun o3 =>
  rt [.sc,.sc,.sc,.sc,.own true 9 1,.sc,.sc,.sc,.own true 9 1,.sc,.own true 3 1,.sc,.own true 3 1] [a0,(atP o0 0),(atP o0 1),(atP o0 2),(atP o0 3),(atP o1 0),(atP o1 1),(atP o1 2),(atP o1 3),(atP o2 0),(atP o2 1),(atP o3 0),(atP o3 1)] k) u0
 | _,_=>False
abbrev Qdr_e:Ent:=⟨[247],Qdr⟩
theorem Qdr_w:EntOK Tryz.prog TT Qdr_e:=okF_ tabok (L:=[Qdn_e,Qdq_e]) ⟨Qdn_w,Qdq_w,trivial⟩ (keep:=[]) (l:=[]) Tryz.func247 trivial fun av k h=>by
 unfold Qdr at h;split at h
 ·apply un_all h;clear h;intro a0 a1 a2 a3 a4 a5 a6 a7 a8 a9 a10 a11 a12 h;exact km h
 ·exact h.elim
def Qds:GM
 | [.agg u0],k=>un 21 (fun a0 a1 a2 a3 a4 a5 a6 a7 a8 a9 a10 a11 a12 a13 a14 a15 a16 a17 a18 a19 a20 =>
  call Qdl [.one a0] fun o0 =>
  call Qdn [.agg [a2,a3,a4,a5]] fun o1 =>
  call Qdq [.agg [a6,a7]] fun o2 =>
  call Qdr [.agg [a8,a9,a10,a11,a12,a13,a14,a15,a16,a17,a18,a19,a20]] fun o3 =>
  rt [.own true 257 17,.sc,.sc,.sc,.sc,.own true 9 1,.sc,.own true 3 1,.sc,.sc,.sc,.sc,.own true 9 1,.sc,.sc,.sc,.own true 9 1,.sc,.own true 3 1,.sc,.own true 3 1] [(atP o0 0),a1,(atP o1 0),(atP o1 1),(atP o1 2),(atP o1 3),(atP o2 0),(atP o2 1),(atP o3 0),(atP o3 1),(atP o3 2),(atP o3 3),(atP o3 4),(atP o3 5),(atP o3 6),(atP o3 7),(atP o3 8),(atP o3 9),(atP o3 10),(atP o3 11),(atP o3 12)] k) u0
 | _,_=>False
abbrev Qds_e:Ent:=⟨[177],Qds⟩
theorem Qds_w:EntOK Tryz.prog TT Qds_e:=okF_ tabok (L:=[Qdl_e,Qdn_e,Qdq_e,Qdr_e]) ⟨Qdl_w,Qdn_w,Qdq_w,Qdr_w,trivial⟩ (keep:=[]) (l:=[]) Tryz.func177 trivial fun av k h=>by
 unfold Qds at h;split at h
 ·apply un_all h;clear h;intro a0 a1 a2 a3 a4 a5 a6 a7 a8 a9 a10 a11 a12 a13 a14 a15 a16 a17 a18 a19 a20 h;exact km h
 ·exact h.elim
def Qdt:GM
 | [.agg u0],k=>un 23 (fun a0 a1 a2 a3 a4 a5 a6 a7 a8 a9 a10 a11 a12 a13 a14 a15 a16 a17 a18 a19 a20 a21 a22 =>
  call Qds [.agg [a2,a3,a4,a5,a6,a7,a8,a9,a10,a11,a12,a13,a14,a15,a16,a17,a18,a19,a20,a21,a22]] fun o0 =>
  rt [.sc,.sc,.own true 257 17,.sc,.sc,.sc,.sc,.own true 9 1,.sc,.own true 3 1,.sc,.sc,.sc,.sc,.own true 9 1,.sc,.sc,.sc,.own true 9 1,.sc,.own true 3 1,.sc,.own true 3 1] [a0,a1,(atP o0 0),(atP o0 1),(atP o0 2),(atP o0 3),(atP o0 4),(atP o0 5),(atP o0 6),(atP o0 7),(atP o0 8),(atP o0 9),(atP o0 10),(atP o0 11),(atP o0 12),(atP o0 13),(atP o0 14),(atP o0 15),(atP o0 16),(atP o0 17),(atP o0 18),(atP o0 19),(atP o0 20)] k) u0
 | _,_=>False
abbrev Qdt_e:Ent:=⟨[224],Qdt⟩
theorem Qdt_w:EntOK Tryz.prog TT Qdt_e:=okF_ tabok (L:=[Qds_e]) ⟨Qds_w,trivial⟩ (keep:=[]) (l:=[]) Tryz.func224 trivial fun av k h=>by
 unfold Qdt at h;split at h
 ·apply un_all h;clear h;intro a0 a1 a2 a3 a4 a5 a6 a7 a8 a9 a10 a11 a12 a13 a14 a15 a16 a17 a18 a19 a20 a21 a22 h;exact km h
 ·exact h.elim
def Qdu_r0 (v:List PV) (K:List PV→Prop) (x0k:PV→PV→PV→PV→PV→Prop):Prop :=
 un 5 (fun v0 v1 v2 v3 v4 =>
  binP .lss v2 v1 fun r0 =>
  iteP r0
   (elemP 23 v0 v2 fun c1 =>
   call Qdt [.agg [(atP c1 0),(atP c1 1),(atP c1 2),(atP c1 3),(atP c1 4),(atP c1 5),(atP c1 6),(atP c1 7),(atP c1 8),(atP c1 9),(atP c1 10),(atP c1 11),(atP c1 12),(atP c1 13),(atP c1 14),(atP c1 15),(atP c1 16),(atP c1 17),(atP c1 18),(atP c1 19),(atP c1 20),(atP c1 21),(atP c1 22)]] fun o2 =>
   (1=1)∧(23≤16777216)∧(23=23)∧(0=0)∧(23=23)∧(flatCond [.pv (I 0),.pv (.str ⟨#[]⟩),.nil 257 17,zB,.pv (.str ⟨#[]⟩),.pv (I 0),.pv (I 0),.nil 9 1,.pv (I 0),.nil 3 1,.pv (I 0),.pv (.str ⟨#[]⟩),.pv (I 0),.pv (I 0),.nil 9 1,.pv (.str ⟨#[]⟩),.pv (I 0),.pv (I 0),.nil 9 1,.pv (I 0),.nil 3 1,.pv (I 0),.nil 3 1] [.pv (atP o2 0),.pv (atP o2 1),.own 8,.pv (atP o2 3),.pv (atP o2 4),.pv (atP o2 5),.pv (atP o2 6),.own 13,.pv (atP o2 8),.own 15,.pv (atP o2 10),.pv (atP o2 11),.pv (atP o2 12),.pv (atP o2 13),.own 20,.pv (atP o2 15),.pv (atP o2 16),.pv (atP o2 17),.own 24,.pv (atP o2 19),.own 26,.pv (atP o2 21),.own 28])∧catP 23 v4 (.list 23 [[(atP o2 0),(atP o2 1),(atP o2 2),(atP o2 3),(atP o2 4),(atP o2 5),(atP o2 6),(atP o2 7),(atP o2 8),(atP o2 9),(atP o2 10),(atP o2 11),(atP o2 12),(atP o2 13),(atP o2 14),(atP o2 15),(atP o2 16),(atP o2 17),(atP o2 18),(atP o2 19),(atP o2 20),(atP o2 21),(atP o2 22)]]) fun r3 =>
   binP .add v2 (I 1) fun r4 =>
   K [v0,v1,r4,v3,r3])
   (x0k v0 v1 v2 v3 v4)) v
def Qdu:GM
 | [.agg u0],k=>un 1 (fun a0 =>
  lenP a0 fun r0 =>
  lp (fun L w=>Qdu_r0 w L
   (fun q5 q6 q7 q8 q9=>rt [.own true 221 23] [q9] k)) [a0,r0,(I 0),(.list 23 []),(.list 23 [])]) u0
 | _,_=>False
abbrev Qdu_e:Ent:=⟨[158],Qdu⟩
def Qdu_l:List LE:=[⟨none,0,⟨[(2,.one (.ptr 1 0)),(3,.one (.ptr 2 0)),(8,.one zB),(9,.one zB),(10,.one zB)],[(2,[.own 3]),(1,[.own 4])],[(4,⟨.deep,221,23,(.bool false)⟩),(3,⟨.deep,221,23,(.bool false)⟩)],5,23,[]⟩,fun K k v=>Qdu_r0 v K (fun x0 x1 x2 x3 x4=>k (.exit 0) ⟨[(2,.one (.ptr 1 0)),(3,.one (.ptr 2 0)),(8,.one (.pv x0)),(9,.one (.pv x1)),(10,.one (.pv x2))],[(2,[.own 3]),(1,[.own 4])],[(4,⟨.deep,221,23,x3⟩),(3,⟨.deep,221,23,x4⟩)],5,23,[]⟩)⟩]
theorem Qdu_s:LEsOK [Qdt_e] TT.nofl (kk [2,3,8,9,10,999999]) Qdu_l Tryz.f158 Qdu_l:=⟨fun v K k h=>by
 apply un_all h;exact fun v0 v1 v2 v3 v4 h=>km h
 ,trivial⟩
theorem Qdu_w:EntOK Tryz.prog TT Qdu_e:=okF_ tabok (L:=[Qdt_e]) ⟨Qdt_w,trivial⟩ (keep:=(kk [2,3,8,9,10,999999])) (l:=Qdu_l) Tryz.func158 Qdu_s fun av k h=>by
 unfold Qdu at h;split at h
 ·apply un_all h;clear h;intro a0 h;exact km h
 ·exact h.elim
def Qdv:GM
 | [.one a0,.one a1,.one a2],k =>
  binP .leq a1 a0 fun r0 =>
  iteP r0
   (binP .leq a0 a2 fun r1 =>
   rt [.sc] [r1] k)
   (rt [.sc] [(.bool false)] k)
 | _,_=>False
abbrev Qdv_e:Ent:=⟨[266],Qdv⟩
theorem Qdv_w:EntOK Tryz.prog TT Qdv_e:=okF_ tabok (L:=[]) trivial (keep:=[]) (l:=[]) Tryz.func266 trivial fun av k h=>by
 unfold Qdv at h;split at h
 ·exact km h
 ·exact h.elim
def Qdw:GM
 | [.one a0],k =>
  call Qdv [.one a0,.one (I 0),.one (I 2147483646)] fun o0 =>
  rt [.sc] [(atP o0 0)] k
 | _,_=>False
abbrev Qdw_e:Ent:=⟨[404],Qdw⟩
theorem Qdw_w:EntOK Tryz.prog TT Qdw_e:=okF_ tabok (L:=[Qdv_e]) ⟨Qdv_w,trivial⟩ (keep:=[]) (l:=[]) Tryz.func404 trivial fun av k h=>by
 unfold Qdw at h;split at h
 ·exact km h
 ·exact h.elim
def Qdx:GM
 | [.agg u0],k=>un 16 (fun a0 a1 a2 a3 a4 a5 a6 a7 a8 a9 a10 a11 a12 a13 a14 a15 =>
  binP .geq a3 (I 0) fun r0 =>
  iteP r0
   (binP .leq a3 a4 fun r1 =>
   iteP r1
    (binP .leq a4 (I 100000) fun r2 =>
    iteP r2
     (binP .sub a4 a3 fun r3 =>
     binP .leq r3 (I 200) fun r4 =>
     rt [.sc] [r4] k)
     (rt [.sc] [(.bool false)] k))
    (rt [.sc] [(.bool false)] k))
   (rt [.sc] [(.bool false)] k)) u0
 | _,_=>False
abbrev Qdx_e:Ent:=⟨[409],Qdx⟩
theorem Qdx_w:EntOK Tryz.prog TT Qdx_e:=okF_ tabok (L:=[]) trivial (keep:=[]) (l:=[]) Tryz.func409 trivial fun av k h=>by
 unfold Qdx at h;split at h
 ·apply un_all h;clear h;intro a0 a1 a2 a3 a4 a5 a6 a7 a8 a9 a10 a11 a12 a13 a14 a15 h;exact km h
 ·exact h.elim
def Qdy_r0 (v:List PV) (K:List PV→Prop) (x0k:Prop) (x1k:PV→PV→PV→PV→Prop):Prop :=
 un 4 (fun v0 v1 v2 v3 =>
  binP .lss v3 v2 fun r0 =>
  iteP r0
   (binP .gtr v3 (I 0) fun r1 =>
   iteP r1
    (elemP 1 v0 v3 fun c2 =>
    binP .sub v3 (I 1) fun r3 =>
    elemP 1 v0 r3 fun c4 =>
    binP .leq (atP c2 0) (atP c4 0) fun r5 =>
    iteP r5
     (x0k)
     (binP .add v3 (I 1) fun r6 =>
     K [v0,v1,v2,r6]))
    (binP .add v3 (I 1) fun r7 =>
    K [v0,v1,v2,r7]))
   (x1k v0 v1 v2 v3)) v
def Qdy:GM
 | [.one a0],k =>
  lenP a0 fun r0 =>
  lp (fun L w=>Qdy_r0 w L
   (rt [.sc] [(.bool false)] k)
   (fun q8 q9 q10 q11=>rt [.sc] [(.bool true)] k)) [a0,(.bool false),r0,(I 0)]
 | _,_=>False
abbrev Qdy_e:Ent:=⟨[370],Qdy⟩
def Qdy_l:List LE:=[⟨none,0,⟨[(0,.one zB),(2,.one zB),(5,.one zB),(6,.one zB)],[],[],0,24,[]⟩,fun K k v=>Qdy_r0 v K (k .ret ⟨[(2,.one (.kb false))],[],[],0,24,[]⟩) (fun x0 x1 x2 x3=>k (.exit 0) ⟨[(0,.one (.pv x0)),(2,.one (.pv x1)),(5,.one (.pv x2)),(6,.one (.pv x3))],[],[],0,24,[]⟩)⟩]
theorem Qdy_s:LEsOK [] TT.nofl (kk [0,2,5,6,12,13,14,15,16,17,18,19,20,21,999999]) Qdy_l Tryz.f370 Qdy_l:=⟨fun v K k h=>by
 apply un_all h;exact fun v0 v1 v2 v3 h=>km h
 ,trivial⟩
theorem Qdy_w:EntOK Tryz.prog TT Qdy_e:=okF_ tabok (L:=[]) trivial (keep:=(kk [0,2,5,6,12,13,14,15,16,17,18,19,20,21,999999])) (l:=Qdy_l) Tryz.func370 Qdy_s fun av k h=>by
 unfold Qdy at h;split at h
 ·exact km h
 ·exact h.elim
def Qdz:GM
 | [.one a0],k =>
  call Qdv [.one a0,.one (I 1),.one (I 99)] fun o0 =>
  rt [.sc] [(atP o0 0)] k
 | _,_=>False
abbrev Qdz_e:Ent:=⟨[371],Qdz⟩
theorem Qdz_w:EntOK Tryz.prog TT Qdz_e:=okF_ tabok (L:=[Qdv_e]) ⟨Qdv_w,trivial⟩ (keep:=[]) (l:=[]) Tryz.func371 trivial fun av k h=>by
 unfold Qdz at h;split at h
 ·exact km h
 ·exact h.elim
def Qea:GM
 | [.agg u0],k=>un 2 (fun a0 a1 =>
  lenP a0 fun r0 =>
  call Qdv [.one r0,.one (I 1),.one (I 4)] fun o1 =>
  iteP (atP o1 0)
   (call Qdy [.one a0] fun o2 =>
   iteP (atP o2 0)
    (elemP 1 a0 (I 0) fun c3 =>
    call Qdz [.one (atP c3 0)] fun o4 =>
    iteP (atP o4 0)
     (lenP a0 fun r5 =>
     binP .sub r5 (I 1) fun r6 =>
     elemP 1 a0 r6 fun c7 =>
     call Qdz [.one (atP c7 0)] fun o8 =>
     iteP (atP o8 0)
      (lenP a0 fun r9 =>
      call Qdv [.one a1,.one (I 1),.one r9] fun o10 =>
      rt [.sc] [(atP o10 0)] k)
      (rt [.sc] [(.bool false)] k))
     (rt [.sc] [(.bool false)] k))
    (rt [.sc] [(.bool false)] k))
   (rt [.sc] [(.bool false)] k)) u0
 | _,_=>False
abbrev Qea_e:Ent:=⟨[322],Qea⟩
theorem Qea_w:EntOK Tryz.prog TT Qea_e:=okF_ tabok (L:=[Qdv_e,Qdy_e,Qdz_e]) ⟨Qdv_w,Qdy_w,Qdz_w,trivial⟩ (keep:=[]) (l:=[]) Tryz.func322 trivial fun av k h=>by
 unfold Qea at h;split at h
 ·apply un_all h;clear h;intro a0 a1 h;exact km h
 ·exact h.elim
def Qeb:GM
 | [.agg u0],k=>un 2 (fun a0 a1 =>
  binP .eql a1 (I 0) fun r0 =>
  iteP r0
   (lenP a0 fun r1 =>
   binP .eql r1 (I 0) fun r2 =>
   rt [.sc] [r2] k)
   (rt [.sc] [(.bool false)] k)) u0
 | _,_=>False
abbrev Qeb_e:Ent:=⟨[412],Qeb⟩
theorem Qeb_w:EntOK Tryz.prog TT Qeb_e:=okF_ tabok (L:=[]) trivial (keep:=[]) (l:=[]) Tryz.func412 trivial fun av k h=>by
 unfold Qeb at h;split at h
 ·apply un_all h;clear h;intro a0 a1 h;exact km h
 ·exact h.elim
def Qec:GM
 | [.agg u0],k=>un 2 (fun a0 a1 =>
  call Qeb [.agg [a0,a1]] fun o0 =>
  iteP (atP o0 0)
   (rt [.sc] [(.bool true)] k)
   (call Qea [.agg [a0,a1]] fun o1 =>
   rt [.sc] [(atP o1 0)] k)) u0
 | _,_=>False
abbrev Qec_e:Ent:=⟨[410],Qec⟩
theorem Qec_w:EntOK Tryz.prog TT Qec_e:=okF_ tabok (L:=[Qeb_e,Qea_e]) ⟨Qeb_w,Qea_w,trivial⟩ (keep:=[]) (l:=[]) Tryz.func410 trivial fun av k h=>by
 unfold Qec at h;split at h
 ·apply un_all h;clear h;intro a0 a1 h;exact km h
 ·exact h.elim
def Qed:GM
 | [.one a0,.agg u0],k=>un 2 (fun a1 a2 =>
  call Qeb [.agg [a1,a2]] fun o0 =>
  iteP (atP o0 0)
   (binP .eql a0 (I 0) fun r1 =>
   rt [.sc] [r1] k)
   (call Qdv [.one a0,.one (I 1),.one (I 500)] fun o2 =>
   rt [.sc] [(atP o2 0)] k)) u0
 | _,_=>False
abbrev Qed_e:Ent:=⟨[411],Qed⟩
theorem Qed_w:EntOK Tryz.prog TT Qed_e:=okF_ tabok (L:=[Qeb_e,Qdv_e]) ⟨Qeb_w,Qdv_w,trivial⟩ (keep:=[]) (l:=[]) Tryz.func411 trivial fun av k h=>by
 unfold Qed at h;split at h
 ·apply un_all h;clear h;intro a1 a2 h;exact km h
 ·exact h.elim
def Qee:GM
 | [.agg u0],k=>un 16 (fun a0 a1 a2 a3 a4 a5 a6 a7 a8 a9 a10 a11 a12 a13 a14 a15 =>
  call Qdw [.one a0] fun o0 =>
  iteP (atP o0 0)
   (call Qdw [.one a6] fun o1 =>
   iteP (atP o1 0)
    (call Qdw [.one a7] fun o2 =>
    iteP (atP o2 0)
     (call Qdv [.one a1,.one (I 0),.one (I 200)] fun o3 =>
     iteP (atP o3 0)
      (call Qdv [.one a2,.one (I 1),.one (I 3)] fun o4 =>
      iteP (atP o4 0)
       (call Qdx [.agg [a0,a1,a2,a3,a4,a5,a6,a7,a8,a9,a10,a11,a12,a13,a14,a15]] fun o5 =>
       iteP (atP o5 0)
        (call Qdv [.one a5,.one (I 0),.one (I 12)] fun o6 =>
        iteP (atP o6 0)
         (call Qea [.agg [a8,a9]] fun o7 =>
         iteP (atP o7 0)
          (call Qec [.agg [a10,a11]] fun o8 =>
          iteP (atP o8 0)
           (call Qec [.agg [a13,a14]] fun o9 =>
           iteP (atP o9 0)
            (call Qed [.one a12,.agg [a10,a11]] fun o10 =>
            iteP (atP o10 0)
             (iteP a15
              (call Qeb [.agg [a13,a14]] fun o11 =>
              unP .not (atP o11 0) fun r12 =>
              rt [.sc] [r12] k)
              (rt [.sc] [(.bool true)] k))
             (rt [.sc] [(.bool false)] k))
            (rt [.sc] [(.bool false)] k))
           (rt [.sc] [(.bool false)] k))
          (rt [.sc] [(.bool false)] k))
         (rt [.sc] [(.bool false)] k))
        (rt [.sc] [(.bool false)] k))
       (rt [.sc] [(.bool false)] k))
      (rt [.sc] [(.bool false)] k))
     (rt [.sc] [(.bool false)] k))
    (rt [.sc] [(.bool false)] k))
   (rt [.sc] [(.bool false)] k)) u0
 | _,_=>False
abbrev Qee_e:Ent:=⟨[378],Qee⟩
theorem Qee_w:EntOK Tryz.prog TT Qee_e:=okF_ tabok (L:=[Qdw_e,Qdv_e,Qdx_e,Qea_e,Qec_e,Qed_e,Qeb_e]) ⟨Qdw_w,Qdv_w,Qdx_w,Qea_w,Qec_w,Qed_w,Qeb_w,trivial⟩ (keep:=[]) (l:=[]) Tryz.func378 trivial fun av k h=>by
 unfold Qee at h;split at h
 ·apply un_all h;clear h;intro a0 a1 a2 a3 a4 a5 a6 a7 a8 a9 a10 a11 a12 a13 a14 a15 h;exact km h
 ·exact h.elim
def Qef:GM
 | [.agg u0],k=>un 2 (fun a0 a1 =>
  lenP a0 fun r0 =>
  (2=2)∧(2≤16777216)∧(1=1)∧(0=0)∧(1=1)∧(flatCond [.pv (I 0)] [.pv a1])∧(1=1)∧(1=1)∧(flatCond [.pv (I 0)] [.pv r0])∧(flatRows a0)∧catP 1 (.list 1 [[a1],[r0]]) a0 fun r1 =>
  rt [.own true 3 1] [r1] k) u0
 | _,_=>False
abbrev Qef_e:Ent:=⟨[418],Qef⟩
theorem Qef_w:EntOK Tryz.prog TT Qef_e:=okF_ tabok (L:=[]) trivial (keep:=[]) (l:=[]) Tryz.func418 trivial fun av k h=>by
 unfold Qef at h;split at h
 ·apply un_all h;clear h;intro a0 a1 h;exact km h
 ·exact h.elim
def Qeg:GM
 | [.one a0,.one a1],k =>
  call Qdv [.one a1,.one (I 1),.one (I 1000000000000)] fun o0 =>
  unP .not (atP o0 0) fun r1 =>
  iteP r1
   (rt [.sc] [(I 0)] k)
   (binP .rem a0 a1 fun r2 =>
   binP .add r2 a1 fun r3 =>
   binP .rem r3 a1 fun r4 =>
   rt [.sc] [r4] k)
 | _,_=>False
abbrev Qeg_e:Ent:=⟨[306],Qeg⟩
theorem Qeg_w:EntOK Tryz.prog TT Qeg_e:=okF_ tabok (L:=[Qdv_e]) ⟨Qdv_w,trivial⟩ (keep:=[]) (l:=[]) Tryz.func306 trivial fun av k h=>by
 unfold Qeg at h;split at h
 ·exact km h
 ·exact h.elim
def Qeh_r0 (v:List PV) (K:List PV→Prop) (x0k:PV→PV→PV→PV→PV→Prop):Prop :=
 un 5 (fun v0 v1 v2 v3 v4 =>
  binP .lss v4 v3 fun r0 =>
  iteP r0
   (elemP 1 v2 v4 fun c1 =>
   binP .mul v1 (I 1000003) fun r2 =>
   call Qeg [.one (atP c1 0),.one (I 2147483647)] fun o3 =>
   binP .add r2 (atP o3 0) fun r4 =>
   binP .add r4 (I 13) fun r5 =>
   binP .rem r5 (I 2147483647) fun r6 =>
   binP .add v4 (I 1) fun r7 =>
   K [v0,r6,v2,v3,r7])
   (x0k v0 v1 v2 v3 v4)) v
def Qeh:GM
 | [.one a0],k =>
  lenP a0 fun r0 =>
  lp (fun L w=>Qeh_r0 w L
   (fun q8 q9 q10 q11 q12=>rt [.sc] [q9] k)) [(I 0),(I 11),a0,r0,(I 0)]
 | _,_=>False
abbrev Qeh_e:Ent:=⟨[250],Qeh⟩
def Qeh_l:List LE:=[⟨none,0,⟨[(2,.one zB),(3,.one zB),(6,.one zB),(7,.one zB),(8,.one zB)],[],[],0,21,[]⟩,fun K k v=>Qeh_r0 v K (fun x0 x1 x2 x3 x4=>k (.exit 0) ⟨[(2,.one (.pv x0)),(3,.one (.pv x1)),(6,.one (.pv x2)),(7,.one (.pv x3)),(8,.one (.pv x4))],[],[],0,21,[]⟩)⟩]
theorem Qeh_s:LEsOK [Qeg_e] TT.nofl (kk [2,3,6,7,8,999999]) Qeh_l Tryz.f250 Qeh_l:=⟨fun v K k h=>by
 apply un_all h;exact fun v0 v1 v2 v3 v4 h=>km h
 ,trivial⟩
theorem Qeh_w:EntOK Tryz.prog TT Qeh_e:=okF_ tabok (L:=[Qeg_e]) ⟨Qeg_w,trivial⟩ (keep:=(kk [2,3,6,7,8,999999])) (l:=Qeh_l) Tryz.func250 Qeh_s fun av k h=>by
 unfold Qeh at h;split at h
 ·exact km h
 ·exact h.elim
def Qei:GM
 | [.agg u0,.one a2],k=>un 2 (fun a0 a1 =>
  (2=2)∧(2≤16777216)∧(1=1)∧(0=0)∧(1=1)∧(flatCond [.pv (I 0)] [.pv (I 239)])∧(1=1)∧(1=1)∧(flatCond [.pv (I 0)] [.pv a2])∧call Qef [.agg [a0,a1]] fun o0 =>
  catP 1 (.list 1 [[(I 239)],[a2]]) (atP o0 0) fun r1 =>
  call Qeh [.one r1] fun o2 =>
  rt [.sc] [(atP o2 0)] k) u0
 | _,_=>False
abbrev Qei_e:Ent:=⟨[402],Qei⟩
theorem Qei_w:EntOK Tryz.prog TT Qei_e:=okF_ tabok (L:=[Qef_e,Qeh_e]) ⟨Qef_w,Qeh_w,trivial⟩ (keep:=[]) (l:=[]) Tryz.func402 trivial fun av k h=>by
 unfold Qei at h;split at h
 ·apply un_all h;clear h;intro a0 a1 h;exact km h
 ·exact h.elim
def Qej:GM
 | [.one a0],k =>
  iteP a0
   (rt [.sc] [(I 1)] k)
   (rt [.sc] [(I 0)] k)
 | _,_=>False
abbrev Qej_e:Ent:=⟨[419],Qej⟩
theorem Qej_w:EntOK Tryz.prog TT Qej_e:=okF_ tabok (L:=[]) trivial (keep:=[]) (l:=[]) Tryz.func419 trivial fun av k h=>by
 unfold Qej at h;split at h
 ·exact km h
 ·exact h.elim
def Qek:GM
 | [.nil 3 1,.one a0],k =>
  binP .lss a0 (I 0) fun r0 =>
  iteP r0
   (False)
   (lenP (.list 1 []) fun r1 =>
   binP .sub (I 0) r1 fun r2 =>
   binP .sub a0 r2 fun r3 =>
   binP .gtr r3 (I 0) fun r4 =>
   iteP r4
    (natP (I 0) fun n5 =>
    (0=0)∧(n5=0)∧((Go.Ev.tI.ik=some Go.IntKind.i64))∧(1=1)∧makeP 1 r3 [(I 0)] fun r6 =>
    lenP (.list 1 []) fun r7 =>
    natP r7 fun n8 =>
    cutP 1 r6 none (some n8) fun r9 =>
    rt [.own true 3 1] [r9] k)
    (rt [.own true 3 1] [(.list 1 [])] k))
 | _,_=>False
abbrev Qek_e:Ent:=⟨[428,999999],Qek⟩
theorem Qek_w:EntOK Tryz.prog TT Qek_e:=okM_ tabok (L:=[]) trivial (keep:=[]) (l:=[]) Tryz.func428 trivial fun av k h=>by
 unfold Qek at h;split at h
 ·exact km h
 ·exact h.elim
def Qel_r0 (v:List PV) (K:List PV→Prop) (x0k:PV→PV→PV→PV→PV→PV→Prop):Prop :=
 un 6 (fun v0 v1 v2 v3 v4 v5 =>
  binP .lss v4 v3 fun r0 =>
  iteP r0
   (elemP 1 v2 v4 fun c1 =>
   lenP (atP c1 0) fun r2 =>
   binP .add v1 r2 fun r3 =>
   binP .lss r3 (I 0) fun r4 =>
   iteP r4
    (False)
    (binP .add v4 (I 1) fun r5 =>
    K [v0,r3,v2,v3,r5,v5]))
   (x0k v0 v1 v2 v3 v4 v5)) v
def Qel_r1 (v:List PV) (K:List PV→Prop) (x0k:PV→PV→PV→PV→PV→PV→PV→PV→PV→PV→Prop):Prop :=
 un 10 (fun v0 v1 v2 v3 v4 v5 v6 v7 v8 v9 =>
  binP .lss v7 v6 fun r0 =>
  iteP r0
   (elemP 1 v5 v7 fun c1 =>
   (flatRows (atP c1 0))∧catP 1 v8 (atP c1 0) fun r2 =>
   binP .add v7 (I 1) fun r3 =>
   K [v0,v1,v2,v3,v4,v5,v6,r3,r2,v9])
   (x0k v0 v1 v2 v3 v4 v5 v6 v7 v8 v9)) v
def Qel:GM
 | [.one a0],k =>
  lenP a0 fun r0 =>
  lp (fun L w=>Qel_r0 w L
   (fun q6 q7 q8 q9 q10 q11=>call Qek [.nil 3 1,.one q7] fun o12 =>
    lenP q6 fun r13 =>
    lp (fun L w=>Qel_r1 w L
     (fun q14 q15 q16 q17 q18 q19 q20 q21 q22 q23=>rt [.own true 3 1] [q22] k)) [q6,q7,q8,q9,q10,q6,r13,(I 0),(atP o12 0),q11])) [a0,(I 0),a0,r0,(I 0),(.list 1 [])]
 | _,_=>False
abbrev Qel_e:Ent:=⟨[417],Qel⟩
def Qel_l:List LE:=[⟨none,0,⟨[(0,.one zB),(2,.one (.own 0)),(3,.one zB),(9,.one zB),(10,.one zB),(11,.one zB)],[],[(0,⟨.deep,3,1,(.bool false)⟩)],1,36,[]⟩,fun K k v=>Qel_r0 v K (fun x0 x1 x2 x3 x4 x5=>k (.exit 0) ⟨[(0,.one (.pv x0)),(2,.one (.own 0)),(3,.one (.pv x1)),(9,.one (.pv x2)),(10,.one (.pv x3)),(11,.one (.pv x4))],[],[(0,⟨.deep,3,1,x5⟩)],1,36,[]⟩)⟩,
 ⟨none,1,⟨[(0,.one zB),(2,.one (.own 0)),(3,.one zB),(6,.one (.own 1)),(9,.one zB),(10,.one zB),(11,.one zB),(25,.one zB),(26,.one zB),(27,.one zB)],[],[(1,⟨.deep,3,1,(.bool false)⟩),(0,⟨.deep,3,1,(.bool false)⟩)],2,36,[]⟩,fun K k v=>Qel_r1 v K (fun x0 x1 x2 x3 x4 x5 x6 x7 x8 x9=>k (.exit 2) ⟨[(0,.one (.pv x0)),(2,.one (.own 0)),(3,.one (.pv x1)),(6,.one (.own 1)),(9,.one (.pv x2)),(10,.one (.pv x3)),(11,.one (.pv x4)),(25,.one (.pv x5)),(26,.one (.pv x6)),(27,.one (.pv x7))],[],[(1,⟨.deep,3,1,x8⟩),(0,⟨.deep,3,1,x9⟩)],2,36,[]⟩)⟩]
theorem Qel_s:LEsOK [Qek_e] TT (kk [0,2,3,6,9,10,11,25,26,27]) Qel_l Tryz.f417 Qel_l:=⟨fun v K k h=>by
 apply un_all h;exact fun v0 v1 v2 v3 v4 v5 h=>km h
 ,fun v K k h=>by
 apply un_all h;exact fun v0 v1 v2 v3 v4 v5 v6 v7 v8 v9 h=>km h
 ,trivial⟩
theorem Qel_w:EntOK Tryz.prog TT Qel_e:=ok_ tabok (L:=[Qek_e]) ⟨Qek_w,trivial⟩ (keep:=(kk [0,2,3,6,9,10,11,25,26,27])) (l:=Qel_l) Tryz.func417 Qel_s fun av k h=>by
 unfold Qel at h;split at h
 ·exact km h
 ·exact h.elim
def Qem:GM
 | [.agg u0],k=>un 16 (fun a0 a1 a2 a3 a4 a5 a6 a7 a8 a9 a10 a11 a12 a13 a14 a15 =>
  (8=8)∧(8≤16777216)∧(1=1)∧(0=0)∧(1=1)∧(flatCond [.pv (I 0)] [.pv a0])∧(1=1)∧(1=1)∧(flatCond [.pv (I 0)] [.pv a1])∧(2=2)∧(1=1)∧(flatCond [.pv (I 0)] [.pv a2])∧(3=3)∧(1=1)∧(flatCond [.pv (I 0)] [.pv a3])∧(4=4)∧(1=1)∧(flatCond [.pv (I 0)] [.pv a4])∧(5=5)∧(1=1)∧(flatCond [.pv (I 0)] [.pv a5])∧(6=6)∧(1=1)∧(flatCond [.pv (I 0)] [.pv a6])∧(7=7)∧(1=1)∧(flatCond [.pv (I 0)] [.pv a7])∧call Qef [.agg [a8,a9]] fun o0 =>
  call Qef [.agg [a10,a11]] fun o1 =>
  (1=1)∧(1≤16777216)∧(1=1)∧(0=0)∧(1=1)∧(flatCond [.pv (I 0)] [.pv a12])∧call Qef [.agg [a13,a14]] fun o2 =>
  call Qej [.one a15] fun o3 =>
  (1=1)∧(1≤16777216)∧(1=1)∧(0=0)∧(1=1)∧(flatCond [.pv (I 0)] [.pv (atP o3 0)])∧(6=6)∧(6≤16777216)∧(1=1)∧(0=0)∧(1=1)∧(flatCond [.nil 3 1] [.own 1])∧(1=1)∧(1=1)∧(flatCond [.nil 3 1] [.own 2])∧(2=2)∧(1=1)∧(flatCond [.nil 3 1] [.own 3])∧(3=3)∧(1=1)∧(flatCond [.nil 3 1] [.own 4])∧(4=4)∧(1=1)∧(flatCond [.nil 3 1] [.own 5])∧(5=5)∧(1=1)∧(flatCond [.nil 3 1] [.own 7])∧call Qel [.one (.list 1 [[(.list 1 [[a0],[a1],[a2],[a3],[a4],[a5],[a6],[a7]])],[(atP o0 0)],[(atP o1 0)],[(.list 1 [[a12]])],[(atP o2 0)],[(.list 1 [[(atP o3 0)]])]])] fun o4 =>
  rt [.own true 3 1] [(atP o4 0)] k) u0
 | _,_=>False
abbrev Qem_e:Ent:=⟨[384],Qem⟩
theorem Qem_w:EntOK Tryz.prog TT Qem_e:=okF_ tabok (L:=[Qef_e,Qej_e,Qel_e]) ⟨Qef_w,Qej_w,Qel_w,trivial⟩ (keep:=[]) (l:=[]) Tryz.func384 trivial fun av k h=>by
 unfold Qem at h;split at h
 ·apply un_all h;clear h;intro a0 a1 a2 a3 a4 a5 a6 a7 a8 a9 a10 a11 a12 a13 a14 a15 h;exact km h
 ·exact h.elim
def Qen:GM
 | [.one a0,.one a1],k =>
  (1=1)∧(1≤16777216)∧(1=1)∧(0=0)∧(1=1)∧(flatCond [.pv (I 0)] [.pv a0])∧(1=1)∧(1≤16777216)∧(1=1)∧(0=0)∧(1=1)∧(flatCond [.pv (I 0)] [.pv a0])∧(3=3)∧(3≤16777216)∧(1=1)∧(0=0)∧(1=1)∧(flatCond [.nil 3 1] [.own 0])∧(1=1)∧(1=1)∧(2=2)∧(1=1)∧(flatCond [.nil 3 1] [.own 1])∧call Qel [.one (.list 1 [[(.list 1 [[a0]])],[a1],[(.list 1 [[a0]])]])] fun o0 =>
  call Qeh [.one (atP o0 0)] fun o1 =>
  rt [.sc] [(atP o1 0)] k
 | _,_=>False
abbrev Qen_e:Ent:=⟨[427],Qen⟩
theorem Qen_w:EntOK Tryz.prog TT Qen_e:=okF_ tabok (L:=[Qel_e,Qeh_e]) ⟨Qel_w,Qeh_w,trivial⟩ (keep:=[]) (l:=[]) Tryz.func427 trivial fun av k h=>by
 unfold Qen at h;split at h
 ·exact km h
 ·exact h.elim
def Qeo:GM
 | [.one a0,.one a1],k =>
  (1=1)∧(1≤16777216)∧(1=1)∧(0=0)∧(1=1)∧(flatCond [.pv (I 0)] [.pv (I 223)])∧(flatRows a1)∧catP 1 (.list 1 [[(I 223)]]) a1 fun r0 =>
  call Qen [.one a0,.one r0] fun o1 =>
  rt [.sc] [(atP o1 0)] k
 | _,_=>False
abbrev Qeo_e:Ent:=⟨[416],Qeo⟩
theorem Qeo_w:EntOK Tryz.prog TT Qeo_e:=okF_ tabok (L:=[Qen_e]) ⟨Qen_w,trivial⟩ (keep:=[]) (l:=[]) Tryz.func416 trivial fun av k h=>by
 unfold Qeo at h;split at h
 ·exact km h
 ·exact h.elim
def Qep:GM
 | [.agg u0,.one a2],k=>un 2 (fun a0 a1 =>
  call Qdz [.one a0] fun o0 =>
  iteP (atP o0 0)
   (call Qeo [.one a0,.one a2] fun o1 =>
   binP .eql a1 (atP o1 0) fun r2 =>
   rt [.sc] [r2] k)
   (rt [.sc] [(.bool false)] k)) u0
 | _,_=>False
abbrev Qep_e:Ent:=⟨[434],Qep⟩
theorem Qep_w:EntOK Tryz.prog TT Qep_e:=okF_ tabok (L:=[Qdz_e,Qeo_e]) ⟨Qdz_w,Qeo_w,trivial⟩ (keep:=[]) (l:=[]) Tryz.func434 trivial fun av k h=>by
 unfold Qep at h;split at h
 ·apply un_all h;clear h;intro a0 a1 h;exact km h
 ·exact h.elim
def Qeq:GM
 | [.agg u0,.ro (.cells u1),.ro (.cells u2)],k=>un 2 (fun a0 a1=>un 1 (fun a2=>un 1 (fun a3 =>
  binP .eql a0 a2 fun r0 =>
  iteP r0
   (call Qep [.agg [a0,a1],.one a3] fun o1 =>
   rt [.sc] [(atP o1 0)] k)
   (rt [.sc] [(.bool false)] k)) u2) u1) u0
 | _,_=>False
abbrev Qeq_e:Ent:=⟨[433],Qeq⟩
theorem Qeq_w:EntOK Tryz.prog TT Qeq_e:=okF_ tabok (L:=[Qep_e]) ⟨Qep_w,trivial⟩ (keep:=[]) (l:=[]) Tryz.func433 trivial fun av k h=>by
 unfold Qeq at h;split at h
 ·apply un_all h;clear h;intro a0 a1 h;apply un_all h;clear h;intro a2 h;apply un_all h;clear h;intro a3 h;exact km h
 ·exact h.elim
def Qer_r0 (v:List PV) (K:List PV→Prop) (x0k:PV→Prop) (x1k:PV→PV→PV→PV→PV→PV→Prop):Prop :=
 un 6 (fun v0 v1 v2 v3 v4 v5 =>
  binP .lss v5 v4 fun r0 =>
  iteP r0
   (elemP 2 v0 v5 fun c1 =>
   call Qeq [.agg [(atP c1 0),(atP c1 1)],.ro (.cells [v1]),.ro (.cells [v2])] fun o2 =>
   iteP (atP o2 0)
    (x0k v5)
    (binP .add v5 (I 1) fun r3 =>
    K [v0,v1,v2,v3,v4,r3]))
   (x1k v0 v1 v2 v3 v4 v5)) v
def Qer:GM
 | [.one a0,.fn 433 [.cells u0,.cells u1]],k=>un 1 (fun a1=>un 1 (fun a2 =>
  lenP a0 fun r0 =>
  lp (fun L w=>Qer_r0 w L
   (fun q4=>rt [.sc] [q4] k)
   (fun q5 q6 q7 q8 q9 q10=>rt [.sc] [(I (-1))] k)) [a0,a1,a2,(I 0),r0,(I 0)]) u1) u0
 | _,_=>False
abbrev Qer_e:Ent:=⟨[435,433],Qer⟩
def Qer_l:List LE:=[⟨none,0,⟨[(0,.one zB),(1,.one (.fn 433 [.ro (.cells [(.bool false)]),.ro (.cells [(.bool false)])])),(4,.one zB),(7,.one zB),(8,.one zB)],[],[],0,19,[]⟩,fun K k v=>Qer_r0 v K (fun x0=>k .ret ⟨[(4,.one (.pv x0))],[],[],1,19,[]⟩) (fun x0 x1 x2 x3 x4 x5=>k (.exit 0) ⟨[(0,.one (.pv x0)),(1,.one (.fn 433 [.ro (.cells [x1]),.ro (.cells [x2])])),(4,.one (.pv x3)),(7,.one (.pv x4)),(8,.one (.pv x5))],[],[],0,19,[]⟩)⟩]
theorem Qer_s:LEsOK [Qeq_e] TT (kk [0,1,4,7,8]) Qer_l Tryz.f435 Qer_l:=⟨fun v K k h=>by
 apply un_all h;exact fun v0 v1 v2 v3 v4 v5 h=>km h
 ,trivial⟩
theorem Qer_w:EntOK Tryz.prog TT Qer_e:=ok_ tabok (L:=[Qeq_e]) ⟨Qeq_w,trivial⟩ (keep:=(kk [0,1,4,7,8])) (l:=Qer_l) Tryz.func435 Qer_s fun av k h=>by
 unfold Qer at h;split at h
 ·apply un_all h;clear h;intro a1 h;apply un_all h;clear h;intro a2 h;exact km h
 ·exact h.elim
def Qes:GM
 | [.one a0,.fn 433 [.cells u0,.cells u1]],k=>un 1 (fun a1=>un 1 (fun a2 =>
  call Qer [.one a0,.fn 433 [.cells [a1],.cells [a2]]] fun o0 =>
  binP .geq (atP o0 0) (I 0) fun r1 =>
  rt [.sc] [r1] k) u1) u0
 | _,_=>False
abbrev Qes_e:Ent:=⟨[432,433],Qes⟩
theorem Qes_w:EntOK Tryz.prog TT Qes_e:=ok_ tabok (L:=[Qer_e]) ⟨Qer_w,trivial⟩ (keep:=[]) (l:=[]) Tryz.func432 trivial fun av k h=>by
 unfold Qes at h;split at h
 ·apply un_all h;clear h;intro a1 h;apply un_all h;clear h;intro a2 h;exact km h
 ·exact h.elim
def Qet_r0 (v:List PV) (K:List PV→Prop) (x0k:PV→PV→PV→PV→PV→PV→PV→Prop):Prop :=
 un 7 (fun v0 v1 v2 v3 v4 v5 v6 =>
  binP .lss v5 v4 fun r0 =>
  iteP r0
   (elemP 1 v3 v5 fun c1 =>
   call Qes [.one v0,.fn 433 [.cells [(atP c1 0)],.cells [v6]]] fun o2 =>
   iteP (atP o2 0)
    (binP .add v2 (I 1) fun r3 =>
    binP .add v5 (I 1) fun r4 =>
    K [v0,v1,r3,v3,v4,r4,v6])
    (binP .add v5 (I 1) fun r5 =>
    K [v0,v1,v2,v3,v4,r5,v6]))
   (x0k v0 v1 v2 v3 v4 v5 v6)) v
def Qet:GM
 | [.agg u0,.one a2,.one a3],k=>un 2 (fun a0 a1 =>
  lenP a0 fun r0 =>
  lp (fun L w=>Qet_r0 w L
   (fun q6 q7 q8 q9 q10 q11 q12=>rt [.sc] [q8] k)) [a3,(I 0),(I 0),a0,r0,(I 0),a2]) u0
 | _,_=>False
abbrev Qet_e:Ent:=⟨[430],Qet⟩
def Qet_l:List LE:=[⟨none,0,⟨[(2,.one zB),(4,.one (.ptr 1 0)),(6,.one zB),(7,.one zB),(11,.one zB),(12,.one zB),(13,.one zB)],[(1,[zB])],[],2,24,[]⟩,fun K k v=>Qet_r0 v K (fun x0 x1 x2 x3 x4 x5 x6=>k (.exit 0) ⟨[(2,.one (.pv x0)),(4,.one (.ptr 1 0)),(6,.one (.pv x1)),(7,.one (.pv x2)),(11,.one (.pv x3)),(12,.one (.pv x4)),(13,.one (.pv x5))],[(1,[.pv x6])],[],2,24,[]⟩)⟩]
theorem Qet_s:LEsOK [Qes_e] TT.nofl (kk [2,4,6,7,11,12,13,999999]) Qet_l Tryz.f430 Qet_l:=⟨fun v K k h=>by
 apply un_all h;exact fun v0 v1 v2 v3 v4 v5 v6 h=>km h
 ,trivial⟩
theorem Qet_w:EntOK Tryz.prog TT Qet_e:=okF_ tabok (L:=[Qes_e]) ⟨Qes_w,trivial⟩ (keep:=(kk [2,4,6,7,11,12,13,999999])) (l:=Qet_l) Tryz.func430 Qet_s fun av k h=>by
 unfold Qet at h;split at h
 ·apply un_all h;clear h;intro a0 a1 h;exact km h
 ·exact h.elim
def Qeu:GM
 | [.agg u0,.one a2,.one a3],k=>un 2 (fun a0 a1 =>
  call Qea [.agg [a0,a1]] fun o0 =>
  iteP (atP o0 0)
   (call Qet [.agg [a0,a1],.one a2,.one a3] fun o1 =>
   binP .geq (atP o1 0) a1 fun r2 =>
   rt [.sc] [r2] k)
   (rt [.sc] [(.bool false)] k)) u0
 | _,_=>False
abbrev Qeu_e:Ent:=⟨[425],Qeu⟩
theorem Qeu_w:EntOK Tryz.prog TT Qeu_e:=okF_ tabok (L:=[Qea_e,Qet_e]) ⟨Qea_w,Qet_w,trivial⟩ (keep:=[]) (l:=[]) Tryz.func425 trivial fun av k h=>by
 unfold Qeu at h;split at h
 ·apply un_all h;clear h;intro a0 a1 h;exact km h
 ·exact h.elim
def Qev:GM
 | [.agg u0,.agg u1],k=>un 17 (fun a0 a1 a2 a3 a4 a5 a6 a7 a8 a9 a10 a11 a12 a13 a14 a15 a16=>un 2 (fun a17 a18 =>
  call Qem [.agg [a0,a1,a2,a3,a4,a5,a6,a7,a8,a9,a10,a11,a12,a13,a14,a15]] fun o0 =>
  call Qeu [.agg [a17,a18],.one (atP o0 0),.one a16] fun o1 =>
  rt [.sc] [(atP o1 0)] k) u1) u0
 | _,_=>False
abbrev Qev_e:Ent:=⟨[403],Qev⟩
theorem Qev_w:EntOK Tryz.prog TT Qev_e:=okF_ tabok (L:=[Qem_e,Qeu_e]) ⟨Qem_w,Qeu_w,trivial⟩ (keep:=[]) (l:=[]) Tryz.func403 trivial fun av k h=>by
 unfold Qev at h;split at h
 ·apply un_all h;clear h;intro a0 a1 a2 a3 a4 a5 a6 a7 a8 a9 a10 a11 a12 a13 a14 a15 a16 h;apply un_all h;clear h;intro a17 a18 h;exact km h
 ·exact h.elim
def Qew:GM
 | [.agg u0],k=>un 17 (fun a0 a1 a2 a3 a4 a5 a6 a7 a8 a9 a10 a11 a12 a13 a14 a15 a16 =>
  call Qee [.agg [a0,a1,a2,a3,a4,a5,a6,a7,a8,a9,a10,a11,a12,a13,a14,a15]] fun o0 =>
  iteP (atP o0 0)
   (binP .eql a1 (I 0) fun r1 =>
   iteP r1
    (binP .eql a2 (I 1) fun r2 =>
    iteP r2
     (unP .not a15 fun r3 =>
     iteP r3
      (call Qei [.agg [a8,a9],.one a7] fun o4 =>
      binP .eql a0 (atP o4 0) fun r5 =>
      iteP r5
       (call Qev [.agg [a0,a1,a2,a3,a4,a5,a6,a7,a8,a9,a10,a11,a12,a13,a14,a15,a16],.agg [a8,a9]] fun o6 =>
       rt [.sc] [(atP o6 0)] k)
       (rt [.sc] [(.bool false)] k))
      (rt [.sc] [(.bool false)] k))
     (rt [.sc] [(.bool false)] k))
    (rt [.sc] [(.bool false)] k))
   (rt [.sc] [(.bool false)] k)) u0
 | _,_=>False
abbrev Qew_e:Ent:=⟨[363],Qew⟩
theorem Qew_w:EntOK Tryz.prog TT Qew_e:=okF_ tabok (L:=[Qee_e,Qei_e,Qev_e]) ⟨Qee_w,Qei_w,Qev_w,trivial⟩ (keep:=[]) (l:=[]) Tryz.func363 trivial fun av k h=>by
 unfold Qew at h;split at h
 ·apply un_all h;clear h;intro a0 a1 a2 a3 a4 a5 a6 a7 a8 a9 a10 a11 a12 a13 a14 a15 a16 h;exact km h
 ·exact h.elim
def Qex:GM
 | [.agg u0],k=>un 16 (fun a0 a1 a2 a3 a4 a5 a6 a7 a8 a9 a10 a11 a12 a13 a14 a15 =>
  (1=1)∧(1≤16777216)∧(1=1)∧(0=0)∧(1=1)∧(flatCond [.pv (I 0)] [.pv (I 233)])∧call Qem [.agg [a0,a1,a2,a3,a4,a5,a6,a7,a8,a9,a10,a11,a12,a13,a14,a15]] fun o0 =>
  catP 1 (.list 1 [[(I 233)]]) (atP o0 0) fun r1 =>
  call Qeh [.one r1] fun o2 =>
  rt [.sc] [(atP o2 0)] k) u0
 | _,_=>False
abbrev Qex_e:Ent:=⟨[413],Qex⟩
theorem Qex_w:EntOK Tryz.prog TT Qex_e:=okF_ tabok (L:=[Qem_e,Qeh_e]) ⟨Qem_w,Qeh_w,trivial⟩ (keep:=[]) (l:=[]) Tryz.func413 trivial fun av k h=>by
 unfold Qex at h;split at h
 ·apply un_all h;clear h;intro a0 a1 a2 a3 a4 a5 a6 a7 a8 a9 a10 a11 a12 a13 a14 a15 h;exact km h
 ·exact h.elim
def Qey:GM
 | [.agg u0,.agg u1],k=>un 16 (fun a0 a1 a2 a3 a4 a5 a6 a7 a8 a9 a10 a11 a12 a13 a14 a15=>un 16 (fun a16 a17 a18 a19 a20 a21 a22 a23 a24 a25 a26 a27 a28 a29 a30 a31 =>
  binP .eql a16 a0 fun r0 =>
  iteP r0
   (binP .add a1 (I 1) fun r1 =>
   binP .eql a17 r1 fun r2 =>
   iteP r2
    (call Qex [.agg [a0,a1,a2,a3,a4,a5,a6,a7,a8,a9,a10,a11,a12,a13,a14,a15]] fun o3 =>
    binP .eql a23 (atP o3 0) fun r4 =>
    iteP r4
     (binP .geq a19 a3 fun r5 =>
     rt [.sc] [r5] k)
     (rt [.sc] [(.bool false)] k))
    (rt [.sc] [(.bool false)] k))
   (rt [.sc] [(.bool false)] k)) u1) u0
 | _,_=>False
abbrev Qey_e:Ent:=⟨[379],Qey⟩
theorem Qey_w:EntOK Tryz.prog TT Qey_e:=okF_ tabok (L:=[Qex_e]) ⟨Qex_w,trivial⟩ (keep:=[]) (l:=[]) Tryz.func379 trivial fun av k h=>by
 unfold Qey at h;split at h
 ·apply un_all h;clear h;intro a0 a1 a2 a3 a4 a5 a6 a7 a8 a9 a10 a11 a12 a13 a14 a15 h;apply un_all h;clear h;intro a16 a17 a18 a19 a20 a21 a22 a23 a24 a25 a26 a27 a28 a29 a30 a31 h;exact km h
 ·exact h.elim
def Qez:GM
 | [.agg u0,.agg u1],k=>un 16 (fun a0 a1 a2 a3 a4 a5 a6 a7 a8 a9 a10 a11 a12 a13 a14 a15=>un 17 (fun a16 a17 a18 a19 a20 a21 a22 a23 a24 a25 a26 a27 a28 a29 a30 a31 a32 =>
  iteP a15
   (rt [.sc] [(I 4)] k)
   (iteP a31
    (rt [.sc] [(I 6)] k)
    (call Qev [.agg [a16,a17,a18,a19,a20,a21,a22,a23,a24,a25,a26,a27,a28,a29,a30,a31,a32],.agg [a8,a9]] fun o0 =>
    unP .not (atP o0 0) fun r1 =>
    iteP r1
     (rt [.sc] [(I 7)] k)
     (rt [.sc] [(I 1)] k)))) u1) u0
 | _,_=>False
abbrev Qez_e:Ent:=⟨[380],Qez⟩
theorem Qez_w:EntOK Tryz.prog TT Qez_e:=okF_ tabok (L:=[Qev_e]) ⟨Qev_w,trivial⟩ (keep:=[]) (l:=[]) Tryz.func380 trivial fun av k h=>by
 unfold Qez at h;split at h
 ·apply un_all h;clear h;intro a0 a1 a2 a3 a4 a5 a6 a7 a8 a9 a10 a11 a12 a13 a14 a15 h;apply un_all h;clear h;intro a16 a17 a18 a19 a20 a21 a22 a23 a24 a25 a26 a27 a28 a29 a30 a31 a32 h;exact km h
 ·exact h.elim
def Qfa_r0 (v:List PV) (K:List PV→Prop) (x0k:Prop) (x1k:PV→PV→PV→PV→PV→Prop):Prop :=
 un 5 (fun v0 v1 v2 v3 v4 =>
  binP .lss v4 v3 fun r0 =>
  iteP r0
   (elemP 1 v0 v4 fun c1 =>
   elemP 1 v1 v4 fun c2 =>
   binP .neq (atP c1 0) (atP c2 0) fun r3 =>
   iteP r3
    (x0k)
    (binP .add v4 (I 1) fun r4 =>
    K [v0,v1,v2,v3,r4]))
   (x1k v0 v1 v2 v3 v4)) v
def Qfa:GM
 | [.one a0,.one a1],k =>
  lenP a0 fun r0 =>
  lenP a1 fun r1 =>
  binP .neq r0 r1 fun r2 =>
  iteP r2
   (rt [.sc] [(.bool false)] k)
   (lenP a0 fun r3 =>
   lp (fun L w=>Qfa_r0 w L
    (rt [.sc] [(.bool false)] k)
    (fun q5 q6 q7 q8 q9=>rt [.sc] [(.bool true)] k)) [a0,a1,(.bool false),r3,(I 0)])
 | _,_=>False
abbrev Qfa_e:Ent:=⟨[420],Qfa⟩
def Qfa_l:List LE:=[⟨none,0,⟨[(0,.one zB),(1,.one zB),(4,.one zB),(12,.one zB),(13,.one zB)],[],[],0,26,[]⟩,fun K k v=>Qfa_r0 v K (k .ret ⟨[(4,.one (.kb false))],[],[],0,26,[]⟩) (fun x0 x1 x2 x3 x4=>k (.exit 0) ⟨[(0,.one (.pv x0)),(1,.one (.pv x1)),(4,.one (.pv x2)),(12,.one (.pv x3)),(13,.one (.pv x4))],[],[],0,26,[]⟩)⟩]
theorem Qfa_s:LEsOK [] TT (kk [0,1,4,12,13]) Qfa_l Tryz.f420 Qfa_l:=⟨fun v K k h=>by
 apply un_all h;exact fun v0 v1 v2 v3 v4 h=>km h
 ,trivial⟩
theorem Qfa_w:EntOK Tryz.prog TT Qfa_e:=ok_ tabok (L:=[]) trivial (keep:=(kk [0,1,4,12,13])) (l:=Qfa_l) Tryz.func420 Qfa_s fun av k h=>by
 unfold Qfa at h;split at h
 ·exact km h
 ·exact h.elim
def Qfb:GM
 | [.agg u0,.agg u1],k=>un 2 (fun a0 a1=>un 2 (fun a2 a3 =>
  call Qfa [.one a0,.one a2] fun o0 =>
  iteP (atP o0 0)
   (binP .eql a1 a3 fun r1 =>
   rt [.sc] [r1] k)
   (rt [.sc] [(.bool false)] k)) u1) u0
 | _,_=>False
abbrev Qfb_e:Ent:=⟨[414],Qfb⟩
theorem Qfb_w:EntOK Tryz.prog TT Qfb_e:=okF_ tabok (L:=[Qfa_e]) ⟨Qfa_w,trivial⟩ (keep:=[]) (l:=[]) Tryz.func414 trivial fun av k h=>by
 unfold Qfb at h;split at h
 ·apply un_all h;clear h;intro a0 a1 h;apply un_all h;clear h;intro a2 a3 h;exact km h
 ·exact h.elim
def Qfc:GM
 | [.agg u0,.agg u1],k=>un 16 (fun a0 a1 a2 a3 a4 a5 a6 a7 a8 a9 a10 a11 a12 a13 a14 a15=>un 16 (fun a16 a17 a18 a19 a20 a21 a22 a23 a24 a25 a26 a27 a28 a29 a30 a31 =>
  binP .eql a5 a21 fun r0 =>
  iteP r0
   (binP .eql a6 a22 fun r1 =>
   rt [.sc] [r1] k)
   (rt [.sc] [(.bool false)] k)) u1) u0
 | _,_=>False
abbrev Qfc_e:Ent:=⟨[415],Qfc⟩
theorem Qfc_w:EntOK Tryz.prog TT Qfc_e:=okF_ tabok (L:=[]) trivial (keep:=[]) (l:=[]) Tryz.func415 trivial fun av k h=>by
 unfold Qfc at h;split at h
 ·apply un_all h;clear h;intro a0 a1 a2 a3 a4 a5 a6 a7 a8 a9 a10 a11 a12 a13 a14 a15 h;apply un_all h;clear h;intro a16 a17 a18 a19 a20 a21 a22 a23 a24 a25 a26 a27 a28 a29 a30 a31 h;exact km h
 ·exact h.elim
def Qfd:GM
 | [.agg u0,.agg u1],k=>un 16 (fun a0 a1 a2 a3 a4 a5 a6 a7 a8 a9 a10 a11 a12 a13 a14 a15=>un 17 (fun a16 a17 a18 a19 a20 a21 a22 a23 a24 a25 a26 a27 a28 a29 a30 a31 a32 =>
  iteP a15
   (rt [.sc] [(I 4)] k)
   (call Qeb [.agg [a10,a11]] fun o0 =>
   iteP (atP o0 0)
    (rt [.sc] [(I 5)] k)
    (binP .add a4 a12 fun r1 =>
    binP .lss a19 r1 fun r2 =>
    iteP r2
     (rt [.sc] [(I 5)] k)
     (iteP a31
      (rt [.sc] [(I 6)] k)
      (call Qfb [.agg [a24,a25],.agg [a10,a11]] fun o3 =>
      unP .not (atP o3 0) fun r4 =>
      iteP r4
       (rt [.sc] [(I 6)] k)
       (call Qfc [.agg [a16,a17,a18,a19,a20,a21,a22,a23,a24,a25,a26,a27,a28,a29,a30,a31],.agg [a0,a1,a2,a3,a4,a5,a6,a7,a8,a9,a10,a11,a12,a13,a14,a15]] fun o5 =>
       unP .not (atP o5 0) fun r6 =>
       iteP r6
        (rt [.sc] [(I 6)] k)
        (call Qev [.agg [a16,a17,a18,a19,a20,a21,a22,a23,a24,a25,a26,a27,a28,a29,a30,a31,a32],.agg [a10,a11]] fun o7 =>
        unP .not (atP o7 0) fun r8 =>
        iteP r8
         (rt [.sc] [(I 7)] k)
         (rt [.sc] [(I 1)] k)))))))) u1) u0
 | _,_=>False
abbrev Qfd_e:Ent:=⟨[381],Qfd⟩
theorem Qfd_w:EntOK Tryz.prog TT Qfd_e:=okF_ tabok (L:=[Qeb_e,Qfb_e,Qfc_e,Qev_e]) ⟨Qeb_w,Qfb_w,Qfc_w,Qev_w,trivial⟩ (keep:=[]) (l:=[]) Tryz.func381 trivial fun av k h=>by
 unfold Qfd at h;split at h
 ·apply un_all h;clear h;intro a0 a1 a2 a3 a4 a5 a6 a7 a8 a9 a10 a11 a12 a13 a14 a15 h;apply un_all h;clear h;intro a16 a17 a18 a19 a20 a21 a22 a23 a24 a25 a26 a27 a28 a29 a30 a31 a32 h;exact km h
 ·exact h.elim
def Qfe:GM
 | [.agg u0,.agg u1],k=>un 16 (fun a0 a1 a2 a3 a4 a5 a6 a7 a8 a9 a10 a11 a12 a13 a14 a15=>un 17 (fun a16 a17 a18 a19 a20 a21 a22 a23 a24 a25 a26 a27 a28 a29 a30 a31 a32 =>
  call Qfc [.agg [a16,a17,a18,a19,a20,a21,a22,a23,a24,a25,a26,a27,a28,a29,a30,a31],.agg [a0,a1,a2,a3,a4,a5,a6,a7,a8,a9,a10,a11,a12,a13,a14,a15]] fun o0 =>
  iteP (atP o0 0)
   (call Qfb [.agg [a29,a30],.agg [a13,a14]] fun o1 =>
   iteP (atP o1 0)
    (call Qfb [.agg [a26,a27],.agg [a10,a11]] fun o2 =>
    iteP (atP o2 0)
     (binP .eql a28 a12 fun r3 =>
     call Qeb [.agg [a13,a14]] fun o4 =>
     iteP (atP o4 0)
      (rt [.sc] [(I 5)] k)
      (boolP .eql a31 a15 fun r5 =>
      iteP r5
       (rt [.sc] [(I 6)] k)
       (unP .not r3 fun r6 =>
       iteP r6
        (rt [.sc] [(I 6)] k)
        (iteP a31
         (call Qfb [.agg [a24,a25],.agg [a8,a9]] fun o7 =>
         unP .not (atP o7 0) fun r8 =>
         iteP r8
          (rt [.sc] [(I 6)] k)
          (call Qev [.agg [a16,a17,a18,a19,a20,a21,a22,a23,a24,a25,a26,a27,a28,a29,a30,a31,a32],.agg [a13,a14]] fun o9 =>
          unP .not (atP o9 0) fun r10 =>
          iteP r10
           (rt [.sc] [(I 7)] k)
           (rt [.sc] [(I 1)] k)))
         (call Qev [.agg [a16,a17,a18,a19,a20,a21,a22,a23,a24,a25,a26,a27,a28,a29,a30,a31,a32],.agg [a13,a14]] fun o11 =>
         unP .not (atP o11 0) fun r12 =>
         iteP r12
          (rt [.sc] [(I 7)] k)
          (rt [.sc] [(I 1)] k))))))
     (call Qeb [.agg [a13,a14]] fun o13 =>
     iteP (atP o13 0)
      (rt [.sc] [(I 5)] k)
      (boolP .eql a31 a15 fun r14 =>
      iteP r14
       (rt [.sc] [(I 6)] k)
       (rt [.sc] [(I 6)] k))))
    (call Qeb [.agg [a13,a14]] fun o15 =>
    iteP (atP o15 0)
     (rt [.sc] [(I 5)] k)
     (boolP .eql a31 a15 fun r16 =>
     iteP r16
      (rt [.sc] [(I 6)] k)
      (rt [.sc] [(I 6)] k))))
   (call Qeb [.agg [a13,a14]] fun o17 =>
   iteP (atP o17 0)
    (rt [.sc] [(I 5)] k)
    (boolP .eql a31 a15 fun r18 =>
    iteP r18
     (rt [.sc] [(I 6)] k)
     (rt [.sc] [(I 6)] k)))) u1) u0
 | _,_=>False
abbrev Qfe_e:Ent:=⟨[382],Qfe⟩
theorem Qfe_w:EntOK Tryz.prog TT Qfe_e:=okF_ tabok (L:=[Qfc_e,Qfb_e,Qeb_e,Qev_e]) ⟨Qfc_w,Qfb_w,Qeb_w,Qev_w,trivial⟩ (keep:=[]) (l:=[]) Tryz.func382 trivial fun av k h=>by
 unfold Qfe at h;split at h
 ·apply un_all h;clear h;intro a0 a1 a2 a3 a4 a5 a6 a7 a8 a9 a10 a11 a12 a13 a14 a15 h;apply un_all h;clear h;intro a16 a17 a18 a19 a20 a21 a22 a23 a24 a25 a26 a27 a28 a29 a30 a31 a32 h;exact km h
 ·exact h.elim
def Qff:GM
 | [.agg u0,.agg u1],k=>un 16 (fun a0 a1 a2 a3 a4 a5 a6 a7 a8 a9 a10 a11 a12 a13 a14 a15=>un 17 (fun a16 a17 a18 a19 a20 a21 a22 a23 a24 a25 a26 a27 a28 a29 a30 a31 a32 =>
  call Qee [.agg [a0,a1,a2,a3,a4,a5,a6,a7,a8,a9,a10,a11,a12,a13,a14,a15]] fun o0 =>
  unP .not (atP o0 0) fun r1 =>
  iteP r1
   (rt [.sc] [(I 2)] k)
   (call Qee [.agg [a16,a17,a18,a19,a20,a21,a22,a23,a24,a25,a26,a27,a28,a29,a30,a31]] fun o2 =>
   unP .not (atP o2 0) fun r3 =>
   iteP r3
    (rt [.sc] [(I 2)] k)
    (call Qey [.agg [a0,a1,a2,a3,a4,a5,a6,a7,a8,a9,a10,a11,a12,a13,a14,a15],.agg [a16,a17,a18,a19,a20,a21,a22,a23,a24,a25,a26,a27,a28,a29,a30,a31]] fun o4 =>
    unP .not (atP o4 0) fun r5 =>
    iteP r5
     (rt [.sc] [(I 3)] k)
     (binP .eql a18 (I 1) fun r6 =>
     iteP r6
      (call Qez [.agg [a0,a1,a2,a3,a4,a5,a6,a7,a8,a9,a10,a11,a12,a13,a14,a15],.agg [a16,a17,a18,a19,a20,a21,a22,a23,a24,a25,a26,a27,a28,a29,a30,a31,a32]] fun o7 =>
      rt [.sc] [(atP o7 0)] k)
      (binP .eql a18 (I 2) fun r8 =>
      iteP r8
       (call Qfd [.agg [a0,a1,a2,a3,a4,a5,a6,a7,a8,a9,a10,a11,a12,a13,a14,a15],.agg [a16,a17,a18,a19,a20,a21,a22,a23,a24,a25,a26,a27,a28,a29,a30,a31,a32]] fun o9 =>
       rt [.sc] [(atP o9 0)] k)
       (call Qfe [.agg [a0,a1,a2,a3,a4,a5,a6,a7,a8,a9,a10,a11,a12,a13,a14,a15],.agg [a16,a17,a18,a19,a20,a21,a22,a23,a24,a25,a26,a27,a28,a29,a30,a31,a32]] fun o10 =>
       rt [.sc] [(atP o10 0)] k)))))) u1) u0
 | _,_=>False
abbrev Qff_e:Ent:=⟨[331],Qff⟩
theorem Qff_w:EntOK Tryz.prog TT Qff_e:=okF_ tabok (L:=[Qee_e,Qey_e,Qez_e,Qfd_e,Qfe_e]) ⟨Qee_w,Qey_w,Qez_w,Qfd_w,Qfe_w,trivial⟩ (keep:=[]) (l:=[]) Tryz.func331 trivial fun av k h=>by
 unfold Qff at h;split at h
 ·apply un_all h;clear h;intro a0 a1 a2 a3 a4 a5 a6 a7 a8 a9 a10 a11 a12 a13 a14 a15 h;apply un_all h;clear h;intro a16 a17 a18 a19 a20 a21 a22 a23 a24 a25 a26 a27 a28 a29 a30 a31 a32 h;exact km h
 ·exact h.elim
def Qfg:GM
 | [.agg u0,.agg u1],k=>un 16 (fun a0 a1 a2 a3 a4 a5 a6 a7 a8 a9 a10 a11 a12 a13 a14 a15=>un 17 (fun a16 a17 a18 a19 a20 a21 a22 a23 a24 a25 a26 a27 a28 a29 a30 a31 a32 =>
  call Qff [.agg [a0,a1,a2,a3,a4,a5,a6,a7,a8,a9,a10,a11,a12,a13,a14,a15],.agg [a16,a17,a18,a19,a20,a21,a22,a23,a24,a25,a26,a27,a28,a29,a30,a31,a32]] fun o0 =>
  binP .eql (atP o0 0) (I 1) fun r1 =>
  rt [.sc] [r1] k) u1) u0
 | _,_=>False
abbrev Qfg_e:Ent:=⟨[364],Qfg⟩
theorem Qfg_w:EntOK Tryz.prog TT Qfg_e:=okF_ tabok (L:=[Qff_e]) ⟨Qff_w,trivial⟩ (keep:=[]) (l:=[]) Tryz.func364 trivial fun av k h=>by
 unfold Qfg at h;split at h
 ·apply un_all h;clear h;intro a0 a1 a2 a3 a4 a5 a6 a7 a8 a9 a10 a11 a12 a13 a14 a15 h;apply un_all h;clear h;intro a16 a17 a18 a19 a20 a21 a22 a23 a24 a25 a26 a27 a28 a29 a30 a31 a32 h;exact km h
 ·exact h.elim
def Qfh_r0 (v:List PV) (K:List PV→Prop) (x0k:PV→Prop) (x1k:PV→Prop) (x2k:PV→PV→PV→PV→PV→Prop):Prop :=
 un 5 (fun v0 v1 v2 v3 v4 =>
  binP .lss v4 v3 fun r0 =>
  iteP r0
   (elemP 17 v2 v4 fun c1 =>
   binP .eql v4 (I 0) fun r2 =>
   iteP r2
    (call Qew [.agg [(atP c1 0),(atP c1 1),(atP c1 2),(atP c1 3),(atP c1 4),(atP c1 5),(atP c1 6),(atP c1 7),(atP c1 8),(atP c1 9),(atP c1 10),(atP c1 11),(atP c1 12),(atP c1 13),(atP c1 14),(atP c1 15),(atP c1 16)]] fun o3 =>
    unP .not (atP o3 0) fun r4 =>
    iteP r4
     (x0k v4)
     (binP .gtr v4 (I 0) fun r5 =>
     iteP r5
      (binP .sub v4 (I 1) fun r6 =>
      elemP 17 v0 r6 fun c7 =>
      call Qfg [.agg [(atP c7 0),(atP c7 1),(atP c7 2),(atP c7 3),(atP c7 4),(atP c7 5),(atP c7 6),(atP c7 7),(atP c7 8),(atP c7 9),(atP c7 10),(atP c7 11),(atP c7 12),(atP c7 13),(atP c7 14),(atP c7 15)],.agg [(atP c1 0),(atP c1 1),(atP c1 2),(atP c1 3),(atP c1 4),(atP c1 5),(atP c1 6),(atP c1 7),(atP c1 8),(atP c1 9),(atP c1 10),(atP c1 11),(atP c1 12),(atP c1 13),(atP c1 14),(atP c1 15),(atP c1 16)]] fun o8 =>
      unP .not (atP o8 0) fun r9 =>
      iteP r9
       (x1k v4)
       (binP .add v4 (I 1) fun r10 =>
       K [v0,v1,v2,v3,r10]))
      (binP .add v4 (I 1) fun r11 =>
      K [v0,v1,v2,v3,r11])))
    (binP .gtr v4 (I 0) fun r12 =>
    iteP r12
     (binP .sub v4 (I 1) fun r13 =>
     elemP 17 v0 r13 fun c14 =>
     call Qfg [.agg [(atP c14 0),(atP c14 1),(atP c14 2),(atP c14 3),(atP c14 4),(atP c14 5),(atP c14 6),(atP c14 7),(atP c14 8),(atP c14 9),(atP c14 10),(atP c14 11),(atP c14 12),(atP c14 13),(atP c14 14),(atP c14 15)],.agg [(atP c1 0),(atP c1 1),(atP c1 2),(atP c1 3),(atP c1 4),(atP c1 5),(atP c1 6),(atP c1 7),(atP c1 8),(atP c1 9),(atP c1 10),(atP c1 11),(atP c1 12),(atP c1 13),(atP c1 14),(atP c1 15),(atP c1 16)]] fun o15 =>
     unP .not (atP o15 0) fun r16 =>
     iteP r16
      (x0k v4)
      (binP .add v4 (I 1) fun r17 =>
      K [v0,v1,v2,v3,r17]))
     (binP .add v4 (I 1) fun r18 =>
     K [v0,v1,v2,v3,r18])))
   (x2k v0 v1 v2 v3 v4)) v
def Qfh:GM
 | [.one a0],k =>
  lenP a0 fun r0 =>
  lp (fun L w=>Qfh_r0 w L
   (fun q19=>rt [.sc] [q19] k)
   (fun q20=>rt [.sc] [q20] k)
   (fun q21 q22 q23 q24 q25=>rt [.sc] [(I (-1))] k)) [a0,(I 0),a0,r0,(I 0)]
 | _,_=>False
abbrev Qfh_e:Ent:=⟨[318],Qfh⟩
def Qfh_l:List LE:=[⟨none,0,⟨[(0,.one zB),(2,.one zB),(5,.one zB),(6,.one zB),(7,.one zB)],[],[],0,36,[]⟩,fun K k v=>Qfh_r0 v K (fun x0=>k .ret ⟨[(2,.one (.pv x0))],[],[],2,36,[]⟩) (fun x0=>k .ret ⟨[(2,.one (.pv x0))],[],[],3,36,[]⟩) (fun x0 x1 x2 x3 x4=>k (.exit 0) ⟨[(0,.one (.pv x0)),(2,.one (.pv x1)),(5,.one (.pv x2)),(6,.one (.pv x3)),(7,.one (.pv x4))],[],[],0,36,[]⟩)⟩]
theorem Qfh_s:LEsOK [Qew_e,Qfg_e] TT.nofl (kk [0,2,5,6,7,15,16,17,20,21,22,23,24,25,26,27,28,29,30,31,32,999999]) Qfh_l Tryz.f318 Qfh_l:=⟨fun v K k h=>by
 apply un_all h;exact fun v0 v1 v2 v3 v4 h=>km h
 ,trivial⟩
theorem Qfh_w:EntOK Tryz.prog TT Qfh_e:=okF_ tabok (L:=[Qew_e,Qfg_e]) ⟨Qew_w,Qfg_w,trivial⟩ (keep:=(kk [0,2,5,6,7,15,16,17,20,21,22,23,24,25,26,27,28,29,30,31,32,999999])) (l:=Qfh_l) Tryz.func318 Qfh_s fun av k h=>by
 unfold Qfh at h;split at h
 ·exact km h
 ·exact h.elim
def Qfi:GM
 | [.one a0],k =>
  lenP a0 fun r0 =>
  call Qdv [.one r0,.one (I 1),.one (I 12)] fun o1 =>
  iteP (atP o1 0)
   (call Qfh [.one a0] fun o2 =>
   binP .lss (atP o2 0) (I 0) fun r3 =>
   rt [.sc] [r3] k)
   (rt [.sc] [(.bool false)] k)
 | _,_=>False
abbrev Qfi_e:Ent:=⟨[267],Qfi⟩
theorem Qfi_w:EntOK Tryz.prog TT Qfi_e:=okF_ tabok (L:=[Qdv_e,Qfh_e]) ⟨Qdv_w,Qfh_w,trivial⟩ (keep:=[]) (l:=[]) Tryz.func267 trivial fun av k h=>by
 unfold Qfi at h;split at h
 ·exact km h
 ·exact h.elim
def Qfj:GM
 | [.one a0],k =>
  lenP a0 fun r0 =>
  binP .sub r0 (I 1) fun r1 =>
  elemP 17 a0 r1 fun c2 =>
  rt [.sc,.sc,.sc,.sc,.sc,.sc,.sc,.sc,.pv,.sc,.pv,.sc,.sc,.pv,.sc,.sc] [(atP c2 0),(atP c2 1),(atP c2 2),(atP c2 3),(atP c2 4),(atP c2 5),(atP c2 6),(atP c2 7),(atP c2 8),(atP c2 9),(atP c2 10),(atP c2 11),(atP c2 12),(atP c2 13),(atP c2 14),(atP c2 15)] k
 | _,_=>False
abbrev Qfj_e:Ent:=⟨[261],Qfj⟩
theorem Qfj_w:EntOK Tryz.prog TT Qfj_e:=okF_ tabok (L:=[]) trivial (keep:=[]) (l:=[]) Tryz.func261 trivial fun av k h=>by
 unfold Qfj at h;split at h
 ·exact km h
 ·exact h.elim
def Qfk_r0 (v:List PV) (K:List PV→Prop) (x0k:Prop) (x1k:PV→PV→PV→PV→Prop):Prop :=
 un 4 (fun v0 v1 v2 v3 =>
  binP .lss v3 v2 fun r0 =>
  iteP r0
   (charP v0 v3 fun r1 =>
   binP .geq r1 (.int .u8 97) fun r2 =>
   iteP r2
    (binP .leq r1 (.int .u8 122) fun r3 =>
    iteP r3
     (binP .add v3 (I 1) fun r4 =>
     K [v0,v1,v2,r4])
     (binP .geq r1 (.int .u8 48) fun r5 =>
     iteP r5
      (binP .leq r1 (.int .u8 57) fun r6 =>
      iteP r6
       (binP .add v3 (I 1) fun r7 =>
       K [v0,v1,v2,r7])
       (binP .eql r1 (.int .u8 45) fun r8 =>
       iteP r8
        (binP .gtr v3 (I 0) fun r9 =>
        iteP r9
         (lenS v0 fun r10 =>
         binP .sub r10 (I 1) fun r11 =>
         binP .lss v3 r11 fun r12 =>
         unP .not r12 fun r13 =>
         iteP r13
          (x0k)
          (binP .add v3 (I 1) fun r14 =>
          K [v0,v1,v2,r14]))
         (x0k))
        (x0k)))
      (binP .eql r1 (.int .u8 45) fun r15 =>
      iteP r15
       (binP .gtr v3 (I 0) fun r16 =>
       iteP r16
        (lenS v0 fun r17 =>
        binP .sub r17 (I 1) fun r18 =>
        binP .lss v3 r18 fun r19 =>
        unP .not r19 fun r20 =>
        iteP r20
         (x0k)
         (binP .add v3 (I 1) fun r21 =>
         K [v0,v1,v2,r21]))
        (x0k))
       (x0k))))
    (binP .geq r1 (.int .u8 48) fun r22 =>
    iteP r22
     (binP .leq r1 (.int .u8 57) fun r23 =>
     iteP r23
      (binP .add v3 (I 1) fun r24 =>
      K [v0,v1,v2,r24])
      (binP .eql r1 (.int .u8 45) fun r25 =>
      iteP r25
       (binP .gtr v3 (I 0) fun r26 =>
       iteP r26
        (lenS v0 fun r27 =>
        binP .sub r27 (I 1) fun r28 =>
        binP .lss v3 r28 fun r29 =>
        unP .not r29 fun r30 =>
        iteP r30
         (x0k)
         (binP .add v3 (I 1) fun r31 =>
         K [v0,v1,v2,r31]))
        (x0k))
       (x0k)))
     (binP .eql r1 (.int .u8 45) fun r32 =>
     iteP r32
      (binP .gtr v3 (I 0) fun r33 =>
      iteP r33
       (lenS v0 fun r34 =>
       binP .sub r34 (I 1) fun r35 =>
       binP .lss v3 r35 fun r36 =>
       unP .not r36 fun r37 =>
       iteP r37
        (x0k)
        (binP .add v3 (I 1) fun r38 =>
        K [v0,v1,v2,r38]))
       (x0k))
      (x0k))))
   (x1k v0 v1 v2 v3)) v
def Qfk:GM
 | [.one a0],k =>
  lenS a0 fun r0 =>
  lp (fun L w=>Qfk_r0 w L
   (rt [.sc] [(.bool false)] k)
   (fun q39 q40 q41 q42=>lenS q39 fun r43 =>
    call Qdv [.one r43,.one (I 1),.one (I 8)] fun o44 =>
    rt [.sc] [(atP o44 0)] k)) [a0,(.bool false),r0,(I 0)]
 | _,_=>False
abbrev Qfk_e:Ent:=⟨[283],Qfk⟩
def Qfk_l:List LE:=[⟨none,0,⟨[(0,.one zB),(2,.one zB),(6,.one zB),(7,.one zB)],[],[],0,47,[]⟩,fun K k v=>Qfk_r0 v K (k .ret ⟨[(2,.one (.kb false))],[],[],0,47,[]⟩) (fun x0 x1 x2 x3=>k (.exit 0) ⟨[(0,.one (.pv x0)),(2,.one (.pv x1)),(6,.one (.pv x2)),(7,.one (.pv x3))],[],[],0,47,[]⟩)⟩]
theorem Qfk_s:LEsOK [Qdv_e] TT.nofl (kk [0,2,6,7,16,17,20,21,22,23,24,25,28,29,30,31,32,33,34,35,36,37,38,39,40,999999]) Qfk_l Tryz.f283 Qfk_l:=⟨fun v K k h=>by
 apply un_all h;exact fun v0 v1 v2 v3 h=>km h
 ,trivial⟩
theorem Qfk_w:EntOK Tryz.prog TT Qfk_e:=okF_ tabok (L:=[Qdv_e]) ⟨Qdv_w,trivial⟩ (keep:=(kk [0,2,6,7,16,17,20,21,22,23,24,25,28,29,30,31,32,33,34,35,36,37,38,39,40,999999])) (l:=Qfk_l) Tryz.func283 Qfk_s fun av k h=>by
 unfold Qfk at h;split at h
 ·exact km h
 ·exact h.elim
def Qfl:GM
 | [.one a0],k =>
  call Qfk [.one a0] fun o0 =>
  unP .not (atP o0 0) fun r1 =>
  rt [.sc] [r1] k
 | _,_=>False
abbrev Qfl_e:Ent:=⟨[282],Qfl⟩
theorem Qfl_w:EntOK Tryz.prog TT Qfl_e:=okF_ tabok (L:=[Qfk_e]) ⟨Qfk_w,trivial⟩ (keep:=[]) (l:=[]) Tryz.func282 trivial fun av k h=>by
 unfold Qfl at h;split at h
 ·exact km h
 ·exact h.elim
def Qfm_r0 (v:List PV) (K:List PV→Prop) (x0k:PV→Prop) (x1k:PV→PV→PV→PV→Prop):Prop :=
 un 4 (fun v0 v1 v2 v3 =>
  binP .lss v3 v2 fun r0 =>
  iteP r0
   (elemP 1 v0 v3 fun c1 =>
   call Qfl [.one (atP c1 0)] fun o2 =>
   iteP (atP o2 0)
    (x0k v3)
    (binP .add v3 (I 1) fun r3 =>
    K [v0,v1,v2,r3]))
   (x1k v0 v1 v2 v3)) v
def Qfm:GM
 | [.one a0,.fn 282 []],k =>
  lenP a0 fun r0 =>
  lp (fun L w=>Qfm_r0 w L
   (fun q4=>rt [.sc] [q4] k)
   (fun q5 q6 q7 q8=>rt [.sc] [(I (-1))] k)) [a0,(I 0),r0,(I 0)]
 | _,_=>False
abbrev Qfm_e:Ent:=⟨[333,282],Qfm⟩
def Qfm_l:List LE:=[⟨none,0,⟨[(0,.one zB),(1,.one (.fn 282 [])),(4,.one zB),(7,.one zB),(8,.one zB)],[],[],0,19,[]⟩,fun K k v=>Qfm_r0 v K (fun x0=>k .ret ⟨[(4,.one (.pv x0))],[],[],1,19,[]⟩) (fun x0 x1 x2 x3=>k (.exit 0) ⟨[(0,.one (.pv x0)),(1,.one (.fn 282 [])),(4,.one (.pv x1)),(7,.one (.pv x2)),(8,.one (.pv x3))],[],[],0,19,[]⟩)⟩]
theorem Qfm_s:LEsOK [Qfl_e] TT (kk [0,1,4,7,8]) Qfm_l Tryz.f333 Qfm_l:=⟨fun v K k h=>by
 apply un_all h;exact fun v0 v1 v2 v3 h=>km h
 ,trivial⟩
theorem Qfm_w:EntOK Tryz.prog TT Qfm_e:=ok_ tabok (L:=[Qfl_e]) ⟨Qfl_w,trivial⟩ (keep:=(kk [0,1,4,7,8])) (l:=Qfm_l) Tryz.func333 Qfm_s fun av k h=>by
 unfold Qfm at h;split at h
 ·exact km h
 ·exact h.elim
def Qfn:GM
 | [.one a0,.fn 282 []],k =>
  call Qfm [.one a0,.fn 282 []] fun o0 =>
  binP .geq (atP o0 0) (I 0) fun r1 =>
  rt [.sc] [r1] k
 | _,_=>False
abbrev Qfn_e:Ent:=⟨[281,282],Qfn⟩
theorem Qfn_w:EntOK Tryz.prog TT Qfn_e:=ok_ tabok (L:=[Qfm_e]) ⟨Qfm_w,trivial⟩ (keep:=[]) (l:=[]) Tryz.func281 trivial fun av k h=>by
 unfold Qfn at h;split at h
 ·exact km h
 ·exact h.elim
def Qfo:GM
 | [.one a0],k =>
  lenP a0 fun r0 =>
  call Qdv [.one r0,.one (I 1),.one (I 4)] fun o1 =>
  iteP (atP o1 0)
   (call Qfn [.one a0,.fn 282 []] fun o2 =>
   unP .not (atP o2 0) fun r3 =>
   rt [.sc] [r3] k)
   (rt [.sc] [(.bool false)] k)
 | _,_=>False
abbrev Qfo_e:Ent:=⟨[225],Qfo⟩
theorem Qfo_w:EntOK Tryz.prog TT Qfo_e:=okF_ tabok (L:=[Qdv_e,Qfn_e]) ⟨Qdv_w,Qfn_w,trivial⟩ (keep:=[]) (l:=[]) Tryz.func225 trivial fun av k h=>by
 unfold Qfo at h;split at h
 ·exact km h
 ·exact h.elim
def Qfp:GM
 | [.agg u0],k=>un 4 (fun a0 a1 a2 a3 =>
  call Qfk [.one a0] fun o0 =>
  unP .not (atP o0 0) fun r1 =>
  iteP r1
   (rt [.sc] [(.bool false)] k)
   (binP .eql a1 (I 1) fun r2 =>
   iteP r2
    (call Qdv [.one a2,.one (I 0),.one (I 999999)] fun o3 =>
    iteP (atP o3 0)
     (lenP a3 fun r4 =>
     binP .eql r4 (I 0) fun r5 =>
     rt [.sc] [r5] k)
     (rt [.sc] [(.bool false)] k))
    (binP .eql a1 (I 2) fun r6 =>
    iteP r6
     (call Qdw [.one a2] fun o7 =>
     iteP (atP o7 0)
      (lenP a3 fun r8 =>
      binP .eql r8 (I 0) fun r9 =>
      rt [.sc] [r9] k)
      (rt [.sc] [(.bool false)] k))
     (binP .eql a1 (I 3) fun r10 =>
     iteP r10
      (call Qdw [.one a2] fun o11 =>
      iteP (atP o11 0)
       (call Qfo [.one a3] fun o12 =>
       rt [.sc] [(atP o12 0)] k)
       (rt [.sc] [(.bool false)] k))
      (rt [.sc] [(.bool false)] k))))) u0
 | _,_=>False
abbrev Qfp_e:Ent:=⟨[365],Qfp⟩
theorem Qfp_w:EntOK Tryz.prog TT Qfp_e:=okF_ tabok (L:=[Qfk_e,Qdv_e,Qdw_e,Qfo_e]) ⟨Qfk_w,Qdv_w,Qdw_w,Qfo_w,trivial⟩ (keep:=[]) (l:=[]) Tryz.func365 trivial fun av k h=>by
 unfold Qfp at h;split at h
 ·apply un_all h;clear h;intro a0 a1 a2 a3 h;exact km h
 ·exact h.elim
def Qfr:GM
 | [.one a0,.one a1],k =>
  call Qkp [.one a0,.one a1] fun o0 =>
  rt [.sc] [(atP o0 0)] k
 | _,_=>False
abbrev Qfr_e:Ent:=⟨[405],Qfr⟩
theorem Qfr_w:EntOK Tryz.prog TT Qfr_e:=ok_ tabok (L:=[Qkp_e]) ⟨Qkp_w,trivial⟩ (keep:=[]) (l:=[]) Tryz.func405 trivial fun av k h=>by
 unfold Qfr at h;split at h
 ·exact km h
 ·exact h.elim
def Qfs:GM
 | [.one a0,.one a1],k =>
  call Qfr [.one a0,.one a1] fun o0 =>
  rt [.sc] [(atP o0 0)] k
 | _,_=>False
abbrev Qfs_e:Ent:=⟨[366],Qfs⟩
theorem Qfs_w:EntOK Tryz.prog TT Qfs_e:=okF_ tabok (L:=[Qfr_e]) ⟨Qfr_w,trivial⟩ (keep:=[]) (l:=[]) Tryz.func366 trivial fun av k h=>by
 unfold Qfs at h;split at h
 ·exact km h
 ·exact h.elim
def Qft_r0 (v:List PV) (K:List PV→Prop) (x0k:Prop) (x1k:Prop) (x2k:PV→PV→PV→PV→PV→Prop):Prop :=
 un 5 (fun v0 v1 v2 v3 v4 =>
  binP .lss v4 v3 fun r0 =>
  iteP r0
   (elemP 4 v2 v4 fun c1 =>
   call Qfp [.agg [(atP c1 0),(atP c1 1),(atP c1 2),(atP c1 3)]] fun o2 =>
   unP .not (atP o2 0) fun r3 =>
   iteP r3
    (x0k)
    (binP .gtr v4 (I 0) fun r4 =>
    iteP r4
     (binP .sub v4 (I 1) fun r5 =>
     elemP 4 v0 r5 fun c6 =>
     call Qfs [.one (atP c1 0),.one (atP c6 0)] fun o7 =>
     binP .leq (atP o7 0) (I 0) fun r8 =>
     iteP r8
      (x1k)
      (binP .add v4 (I 1) fun r9 =>
      K [v0,v1,v2,v3,r9]))
     (binP .add v4 (I 1) fun r10 =>
     K [v0,v1,v2,v3,r10])))
   (x2k v0 v1 v2 v3 v4)) v
def Qft:GM
 | [.one a0],k =>
  lenP a0 fun r0 =>
  lp (fun L w=>Qft_r0 w L
   (rt [.sc] [(.bool false)] k)
   (rt [.sc] [(.bool false)] k)
   (fun q11 q12 q13 q14 q15=>lenP q11 fun r16 =>
    binP .leq r16 (I 12) fun r17 =>
    rt [.sc] [r17] k)) [a0,(.bool false),a0,r0,(I 0)]
 | _,_=>False
abbrev Qft_e:Ent:=⟨[319],Qft⟩
def Qft_l:List LE:=[⟨none,0,⟨[(0,.one zB),(2,.one zB),(5,.one zB),(6,.one zB),(7,.one zB)],[],[],0,35,[]⟩,fun K k v=>Qft_r0 v K (k .ret ⟨[(2,.one (.kb false))],[],[],2,35,[]⟩) (k .ret ⟨[(2,.one (.kb false))],[],[],3,35,[]⟩) (fun x0 x1 x2 x3 x4=>k (.exit 0) ⟨[(0,.one (.pv x0)),(2,.one (.pv x1)),(5,.one (.pv x2)),(6,.one (.pv x3)),(7,.one (.pv x4))],[],[],0,35,[]⟩)⟩]
theorem Qft_s:LEsOK [Qfp_e,Qfs_e] TT.nofl (kk [0,2,5,6,7,16,17,18,19,20,21,22,23,24,25,26,27,28,29,999999]) Qft_l Tryz.f319 Qft_l:=⟨fun v K k h=>by
 apply un_all h;exact fun v0 v1 v2 v3 v4 h=>km h
 ,trivial⟩
theorem Qft_w:EntOK Tryz.prog TT Qft_e:=okF_ tabok (L:=[Qfp_e,Qfs_e]) ⟨Qfp_w,Qfs_w,trivial⟩ (keep:=(kk [0,2,5,6,7,16,17,18,19,20,21,22,23,24,25,26,27,28,29,999999])) (l:=Qft_l) Tryz.func319 Qft_s fun av k h=>by
 unfold Qft at h;split at h
 ·exact km h
 ·exact h.elim
def Qfu_r0 (v:List PV) (K:List PV→Prop) (x0k:PV→PV→PV→PV→PV→Prop):Prop :=
 un 5 (fun v0 v1 v2 v3 v4 =>
  binP .lss v2 v1 fun r0 =>
  iteP r0
   (elemP 1 v0 v2 fun c1 =>
   convP .i64 (atP c1 0) fun r2 =>
   (1=1)∧(1≤16777216)∧(1=1)∧(0=0)∧(1=1)∧(flatCond [.pv (I 0)] [.pv r2])∧catP 1 v4 (.list 1 [[r2]]) fun r3 =>
   binP .add v2 (I 1) fun r4 =>
   K [v0,v1,r4,v3,r3])
   (x0k v0 v1 v2 v3 v4)) v
def Qfu:GM
 | [.one a0],k =>
  lenP a0 fun r0 =>
  (1=1)∧(1≤16777216)∧(1=1)∧(0=0)∧(1=1)∧(flatCond [.pv (I 0)] [.pv r0])∧lenP a0 fun r1 =>
  lp (fun L w=>Qfu_r0 w L
   (fun q5 q6 q7 q8 q9=>rt [.own true 3 1] [q9] k)) [a0,r1,(I 0),(.list 1 []),(.list 1 [[r0]])]
 | _,_=>False
abbrev Qfu_e:Ent:=⟨[307],Qfu⟩
def Qfu_l:List LE:=[⟨none,0,⟨[(2,.one (.own 1)),(3,.one (.own 0)),(9,.one zB),(10,.one zB),(11,.one zB)],[],[(1,⟨.deep,3,1,(.bool false)⟩),(0,⟨.deep,3,1,(.bool false)⟩)],2,22,[]⟩,fun K k v=>Qfu_r0 v K (fun x0 x1 x2 x3 x4=>k (.exit 0) ⟨[(2,.one (.own 1)),(3,.one (.own 0)),(9,.one (.pv x0)),(10,.one (.pv x1)),(11,.one (.pv x2))],[],[(1,⟨.deep,3,1,x3⟩),(0,⟨.deep,3,1,x4⟩)],2,22,[]⟩)⟩]
theorem Qfu_s:LEsOK [] TT.nofl (kk [2,3,9,10,11,999999]) Qfu_l Tryz.f307 Qfu_l:=⟨fun v K k h=>by
 apply un_all h;exact fun v0 v1 v2 v3 v4 h=>km h
 ,trivial⟩
theorem Qfu_w:EntOK Tryz.prog TT Qfu_e:=okF_ tabok (L:=[]) trivial (keep:=(kk [2,3,9,10,11,999999])) (l:=Qfu_l) Tryz.func307 Qfu_s fun av k h=>by
 unfold Qfu at h;split at h
 ·exact km h
 ·exact h.elim
def Qfv:GM
 | [.one a0],k =>
  bytesP a0 fun r0 =>
  call Qfu [.one r0] fun o1 =>
  rt [.own true 3 1] [(atP o1 0)] k
 | _,_=>False
abbrev Qfv_e:Ent:=⟨[251],Qfv⟩
theorem Qfv_w:EntOK Tryz.prog TT Qfv_e:=okF_ tabok (L:=[Qfu_e]) ⟨Qfu_w,trivial⟩ (keep:=[]) (l:=[]) Tryz.func251 trivial fun av k h=>by
 unfold Qfv at h;split at h
 ·exact km h
 ·exact h.elim
def Qfw_r0 (v:List PV) (K:List PV→Prop) (x0k:PV→PV→PV→PV→PV→Prop):Prop :=
 un 5 (fun v0 v1 v2 v3 v4 =>
  binP .lss v2 v1 fun r0 =>
  iteP r0
   (elemP 1 v0 v2 fun c1 =>
   call Qfv [.one (atP c1 0)] fun o2 =>
   catP 1 v4 (atP o2 0) fun r3 =>
   binP .add v2 (I 1) fun r4 =>
   K [v0,v1,r4,v3,r3])
   (x0k v0 v1 v2 v3 v4)) v
def Qfw:GM
 | [.agg u0],k=>un 4 (fun a0 a1 a2 a3 =>
  call Qfv [.one a0] fun o0 =>
  lenP a3 fun r1 =>
  (3=3)∧(3≤16777216)∧(1=1)∧(0=0)∧(1=1)∧(flatCond [.pv (I 0)] [.pv a1])∧(1=1)∧(1=1)∧(flatCond [.pv (I 0)] [.pv a2])∧(2=2)∧(1=1)∧(flatCond [.pv (I 0)] [.pv r1])∧catP 1 (atP o0 0) (.list 1 [[a1],[a2],[r1]]) fun r2 =>
  lenP a3 fun r3 =>
  lp (fun L w=>Qfw_r0 w L
   (fun q5 q6 q7 q8 q9=>rt [.own true 3 1] [q9] k)) [a3,r3,(I 0),(.list 1 []),r2]) u0
 | _,_=>False
abbrev Qfw_e:Ent:=⟨[423],Qfw⟩
def Qfw_l:List LE:=[⟨none,0,⟨[(2,.one (.own 4)),(3,.one (.own 3)),(19,.one zB),(20,.one zB),(21,.one zB)],[],[(4,⟨.deep,3,1,(.bool false)⟩),(3,⟨.deep,3,1,(.bool false)⟩)],5,31,[]⟩,fun K k v=>Qfw_r0 v K (fun x0 x1 x2 x3 x4=>k (.exit 0) ⟨[(2,.one (.own 4)),(3,.one (.own 3)),(19,.one (.pv x0)),(20,.one (.pv x1)),(21,.one (.pv x2))],[],[(4,⟨.deep,3,1,x3⟩),(3,⟨.deep,3,1,x4⟩)],5,31,[]⟩)⟩]
theorem Qfw_s:LEsOK [Qfv_e] TT.nofl (kk [2,3,19,20,21,999999]) Qfw_l Tryz.f423 Qfw_l:=⟨fun v K k h=>by
 apply un_all h;exact fun v0 v1 v2 v3 v4 h=>km h
 ,trivial⟩
theorem Qfw_w:EntOK Tryz.prog TT Qfw_e:=okF_ tabok (L:=[Qfv_e]) ⟨Qfv_w,trivial⟩ (keep:=(kk [2,3,19,20,21,999999])) (l:=Qfw_l) Tryz.func423 Qfw_s fun av k h=>by
 unfold Qfw at h;split at h
 ·apply un_all h;clear h;intro a0 a1 a2 a3 h;exact km h
 ·exact h.elim
def Qfx:GM
 | [.agg u0],k=>un 4 (fun a0 a1 a2 a3 =>
  (1=1)∧(1≤16777216)∧(1=1)∧(0=0)∧(1=1)∧(flatCond [.pv (I 0)] [.pv (I 227)])∧call Qfw [.agg [a0,a1,a2,a3]] fun o0 =>
  catP 1 (.list 1 [[(I 227)]]) (atP o0 0) fun r1 =>
  call Qeh [.one r1] fun o2 =>
  rt [.sc] [(atP o2 0)] k) u0
 | _,_=>False
abbrev Qfx_e:Ent:=⟨[393],Qfx⟩
theorem Qfx_w:EntOK Tryz.prog TT Qfx_e:=okF_ tabok (L:=[Qfw_e,Qeh_e]) ⟨Qfw_w,Qeh_w,trivial⟩ (keep:=[]) (l:=[]) Tryz.func393 trivial fun av k h=>by
 unfold Qfx at h;split at h
 ·apply un_all h;clear h;intro a0 a1 a2 a3 h;exact km h
 ·exact h.elim
def Qfy_r0 (v:List PV) (K:List PV→Prop) (x0k:PV→PV→PV→PV→PV→Prop):Prop :=
 un 5 (fun v0 v1 v2 v3 v4 =>
  binP .lss v2 v1 fun r0 =>
  iteP r0
   (elemP 4 v0 v2 fun c1 =>
   call Qfx [.agg [(atP c1 0),(atP c1 1),(atP c1 2),(atP c1 3)]] fun o2 =>
   (1=1)∧(1≤16777216)∧(1=1)∧(0=0)∧(1=1)∧(flatCond [.pv (I 0)] [.pv (atP o2 0)])∧catP 1 v4 (.list 1 [[(atP o2 0)]]) fun r3 =>
   binP .add v2 (I 1) fun r4 =>
   K [v0,v1,r4,v3,r3])
   (x0k v0 v1 v2 v3 v4)) v
def Qfy:GM
 | [.one a0],k =>
  (0=0)∧(0≤16777216)∧(1=1)∧lenP a0 fun r0 =>
  lp (fun L w=>Qfy_r0 w L
   (fun q5 q6 q7 q8 q9=>rt [.own true 3 1] [q9] k)) [a0,r0,(I 0),(.list 1 []),(.list 1 [])]
 | _,_=>False
abbrev Qfy_e:Ent:=⟨[360],Qfy⟩
def Qfy_l:List LE:=[⟨none,0,⟨[(2,.one (.own 1)),(3,.one (.own 0)),(7,.one zB),(8,.one zB),(9,.one zB)],[],[(1,⟨.deep,3,1,(.bool false)⟩),(0,⟨.deep,3,1,(.bool false)⟩)],2,20,[]⟩,fun K k v=>Qfy_r0 v K (fun x0 x1 x2 x3 x4=>k (.exit 0) ⟨[(2,.one (.own 1)),(3,.one (.own 0)),(7,.one (.pv x0)),(8,.one (.pv x1)),(9,.one (.pv x2))],[],[(1,⟨.deep,3,1,x3⟩),(0,⟨.deep,3,1,x4⟩)],2,20,[]⟩)⟩]
theorem Qfy_s:LEsOK [Qfx_e] TT.nofl (kk [2,3,7,8,9,999999]) Qfy_l Tryz.f360 Qfy_l:=⟨fun v K k h=>by
 apply un_all h;exact fun v0 v1 v2 v3 v4 h=>km h
 ,trivial⟩
theorem Qfy_w:EntOK Tryz.prog TT Qfy_e:=okF_ tabok (L:=[Qfx_e]) ⟨Qfx_w,trivial⟩ (keep:=(kk [2,3,7,8,9,999999])) (l:=Qfy_l) Tryz.func360 Qfy_s fun av k h=>by
 unfold Qfy at h;split at h
 ·exact km h
 ·exact h.elim
def Qfz:GM
 | [.one a0],k =>
  call Qeh [.one a0] fun o0 =>
  rt [.sc] [(atP o0 0)] k
 | _,_=>False
abbrev Qfz_e:Ent:=⟨[406],Qfz⟩
theorem Qfz_w:EntOK Tryz.prog TT Qfz_e:=okF_ tabok (L:=[Qeh_e]) ⟨Qeh_w,trivial⟩ (keep:=[]) (l:=[]) Tryz.func406 trivial fun av k h=>by
 unfold Qfz at h;split at h
 ·exact km h
 ·exact h.elim
def Qga:GM
 | [.one a0,.one a1],k =>
  (3=3)∧(3≤16777216)∧(1=1)∧(0=0)∧(1=1)∧(flatCond [.pv (I 0)] [.pv (I 229)])∧(1=1)∧(1=1)∧(flatCond [.pv (I 0)] [.pv a0])∧(2=2)∧(1=1)∧(flatCond [.pv (I 0)] [.pv a1])∧call Qfz [.one (.list 1 [[(I 229)],[a0],[a1]])] fun o0 =>
  rt [.sc] [(atP o0 0)] k
 | _,_=>False
abbrev Qga_e:Ent:=⟨[422],Qga⟩
theorem Qga_w:EntOK Tryz.prog TT Qga_e:=okF_ tabok (L:=[Qfz_e]) ⟨Qfz_w,trivial⟩ (keep:=[]) (l:=[]) Tryz.func422 trivial fun av k h=>by
 unfold Qga at h;split at h
 ·exact km h
 ·exact h.elim
def Qgb_r0 (v:List PV) (K:List PV→Prop) (x0k:PV→PV→PV→PV→Prop):Prop :=
 un 4 (fun v0 v1 v2 v3 =>
  lenP v0 fun r0 =>
  binP .lss v1 r0 fun r1 =>
  iteP r1
   (binP .add v1 (I 1) fun r2 =>
   lenP v0 fun r3 =>
   binP .lss r2 r3 fun r4 =>
   iteP r4
    (elemP 1 v0 v1 fun c5 =>
    binP .add v1 (I 1) fun r6 =>
    elemP 1 v0 r6 fun c7 =>
    call Qga [.one (atP c5 0),.one (atP c7 0)] fun o8 =>
    (1=1)∧(1≤16777216)∧(1=1)∧(0=0)∧(1=1)∧(flatCond [.pv (I 0)] [.pv (atP o8 0)])∧catP 1 v3 (.list 1 [[(atP o8 0)]]) fun r9 =>
    binP .add v1 (I 2) fun r10 =>
    K [v0,r10,v2,r9])
    (elemP 1 v0 v1 fun c11 =>
    (1=1)∧(1≤16777216)∧(1=1)∧(0=0)∧(1=1)∧(flatCond [.pv (I 0)] [.pv (atP c11 0)])∧catP 1 v3 (.list 1 [[(atP c11 0)]]) fun r12 =>
    binP .add v1 (I 2) fun r13 =>
    K [v0,r13,v2,r12]))
   (x0k v0 v1 v2 v3)) v
def Qgb:GM
 | [.one a0],k =>
  (0=0)∧(0≤16777216)∧(1=1)∧lp (fun L w=>Qgb_r0 w L
   (fun q14 q15 q16 q17=>rt [.own true 3 1] [q17] k)) [a0,(I 0),(.list 1 []),(.list 1 [])]
 | _,_=>False
abbrev Qgb_e:Ent:=⟨[401],Qgb⟩
def Qgb_l:List LE:=[⟨none,0,⟨[(0,.one zB),(2,.one (.own 1)),(3,.one (.own 0)),(4,.one zB)],[],[(1,⟨.deep,3,1,(.bool false)⟩),(0,⟨.deep,3,1,(.bool false)⟩)],2,38,[]⟩,fun K k v=>Qgb_r0 v K (fun x0 x1 x2 x3=>k (.exit 0) ⟨[(0,.one (.pv x0)),(2,.one (.own 1)),(3,.one (.own 0)),(4,.one (.pv x1))],[],[(1,⟨.deep,3,1,x2⟩),(0,⟨.deep,3,1,x3⟩)],2,38,[]⟩)⟩]
theorem Qgb_s:LEsOK [Qga_e] TT.nofl (kk [0,2,3,4,999999]) Qgb_l Tryz.f401 Qgb_l:=⟨fun v K k h=>by
 apply un_all h;exact fun v0 v1 v2 v3 h=>km h
 ,trivial⟩
theorem Qgb_w:EntOK Tryz.prog TT Qgb_e:=okF_ tabok (L:=[Qga_e]) ⟨Qga_w,trivial⟩ (keep:=(kk [0,2,3,4,999999])) (l:=Qgb_l) Tryz.func401 Qgb_s fun av k h=>by
 unfold Qgb at h;split at h
 ·exact km h
 ·exact h.elim
def Qgc_r0 (v:List PV) (K:List PV→Prop) (x0k:PV→PV→Prop):Prop :=
 un 2 (fun v0 v1 =>
  lenP v0 fun r0 =>
  binP .gtr r0 (I 1) fun r1 =>
  iteP r1
   (call Qgb [.one v0] fun o2 =>
   K [(atP o2 0),v1])
   (x0k v0 v1)) v
def Qgc:GM
 | [.one a0],k =>
  lenP a0 fun r0 =>
  binP .eql r0 (I 0) fun r1 =>
  iteP r1
   ((1=1)∧(1≤16777216)∧(1=1)∧(0=0)∧(1=1)∧(flatCond [.pv (I 0)] [.pv (I 229)])∧call Qfz [.one (.list 1 [[(I 229)]])] fun o2 =>
   rt [.sc] [(atP o2 0)] k)
   (lp (fun L w=>Qgc_r0 w L
    (fun q3 q4=>elemP 1 q3 (I 0) fun c5 =>
     rt [.sc] [(atP c5 0)] k)) [a0,(I 0)])
 | _,_=>False
abbrev Qgc_e:Ent:=⟨[368],Qgc⟩
def Qgc_l:List LE:=[⟨none,0,⟨[(0,.one zB),(2,.one zB)],[],[],0,16,[]⟩,fun K k v=>Qgc_r0 v K (fun x0 x1=>k (.exit 0) ⟨[(0,.one (.pv x0)),(2,.one (.pv x1))],[],[],0,16,[]⟩)⟩]
theorem Qgc_s:LEsOK [Qfz_e,Qgb_e] TT.nofl (kk [0,2,999999]) Qgc_l Tryz.f368 Qgc_l:=⟨fun v K k h=>by
 apply un_all h;exact fun v0 v1 h=>km h
 ,trivial⟩
theorem Qgc_w:EntOK Tryz.prog TT Qgc_e:=okF_ tabok (L:=[Qfz_e,Qgb_e]) ⟨Qfz_w,Qgb_w,trivial⟩ (keep:=(kk [0,2,999999])) (l:=Qgc_l) Tryz.func368 Qgc_s fun av k h=>by
 unfold Qgc at h;split at h
 ·exact km h
 ·exact h.elim
def Qgd:GM
 | [.one a0,.one a1],k =>
  (3=3)∧(3≤16777216)∧(1=1)∧(0=0)∧(1=1)∧(flatCond [.pv (I 0)] [.pv (I 231)])∧(1=1)∧(1=1)∧(flatCond [.pv (I 0)] [.pv a0])∧(2=2)∧(1=1)∧(flatCond [.pv (I 0)] [.pv a1])∧call Qfz [.one (.list 1 [[(I 231)],[a0],[a1]])] fun o0 =>
  rt [.sc] [(atP o0 0)] k
 | _,_=>False
abbrev Qgd_e:Ent:=⟨[367],Qgd⟩
theorem Qgd_w:EntOK Tryz.prog TT Qgd_e:=okF_ tabok (L:=[Qfz_e]) ⟨Qfz_w,trivial⟩ (keep:=[]) (l:=[]) Tryz.func367 trivial fun av k h=>by
 unfold Qgd at h;split at h
 ·exact km h
 ·exact h.elim
def Qge:GM
 | [.one a0],k =>
  lenP a0 fun r0 =>
  call Qfy [.one a0] fun o1 =>
  call Qgc [.one (atP o1 0)] fun o2 =>
  call Qgd [.one r0,.one (atP o2 0)] fun o3 =>
  rt [.sc] [(atP o3 0)] k
 | _,_=>False
abbrev Qge_e:Ent:=⟨[320],Qge⟩
theorem Qge_w:EntOK Tryz.prog TT Qge_e:=okF_ tabok (L:=[Qfy_e,Qgc_e,Qgd_e]) ⟨Qfy_w,Qgc_w,Qgd_w,trivial⟩ (keep:=[]) (l:=[]) Tryz.func320 trivial fun av k h=>by
 unfold Qge at h;split at h
 ·exact km h
 ·exact h.elim
def Qgf:GM
 | [.one a0,.one a1],k =>
  call Qft [.one a1] fun o0 =>
  iteP (atP o0 0)
   (call Qge [.one a1] fun o1 =>
   binP .eql (atP o1 0) a0 fun r2 =>
   rt [.sc] [r2] k)
   (rt [.sc] [(.bool false)] k)
 | _,_=>False
abbrev Qgf_e:Ent:=⟨[268],Qgf⟩
theorem Qgf_w:EntOK Tryz.prog TT Qgf_e:=okF_ tabok (L:=[Qft_e,Qge_e]) ⟨Qft_w,Qge_w,trivial⟩ (keep:=[]) (l:=[]) Tryz.func268 trivial fun av k h=>by
 unfold Qgf at h;split at h
 ·exact km h
 ·exact h.elim
def Qgg:GM
 | [.agg u0],k=>un 2 (fun a0 a1 =>
  call Qfi [.one a0] fun o0 =>
  unP .not (atP o0 0) fun r1 =>
  iteP r1
   (rt [.sc] [(.bool false)] k)
   (call Qfj [.one a0] fun o2 =>
   lenP a1 fun r3 =>
   binP .eql (atP o2 5) r3 fun r4 =>
   iteP r4
    (call Qgf [.one (atP o2 6),.one a1] fun o5 =>
    rt [.sc] [(atP o5 0)] k)
    (rt [.sc] [(.bool false)] k))) u0
 | _,_=>False
abbrev Qgg_e:Ent:=⟨[210],Qgg⟩
theorem Qgg_w:EntOK Tryz.prog TT Qgg_e:=okF_ tabok (L:=[Qfi_e,Qfj_e,Qgf_e]) ⟨Qfi_w,Qfj_w,Qgf_w,trivial⟩ (keep:=[]) (l:=[]) Tryz.func210 trivial fun av k h=>by
 unfold Qgg at h;split at h
 ·apply un_all h;clear h;intro a0 a1 h;exact km h
 ·exact h.elim
def Qgh:GM
 | [.agg u0],k=>un 2 (fun a0 a1 =>
  call Qgg [.agg [a0,a1]] fun o0 =>
  unP .not (atP o0 0) fun r1 =>
  iteP r1
   (rt [.sc] [(I (-1))] k)
   (call Qfj [.one a0] fun o2 =>
   rt [.sc] [(atP o2 0)] k)) u0
 | _,_=>False
abbrev Qgh_e:Ent:=⟨[201],Qgh⟩
theorem Qgh_w:EntOK Tryz.prog TT Qgh_e:=okF_ tabok (L:=[Qgg_e,Qfj_e]) ⟨Qgg_w,Qfj_w,trivial⟩ (keep:=[]) (l:=[]) Tryz.func201 trivial fun av k h=>by
 unfold Qgh at h;split at h
 ·apply un_all h;clear h;intro a0 a1 h;exact km h
 ·exact h.elim
def Qgi_r0 (v:List PV) (K:List PV→Prop) (x0k:Prop) (x1k:PV→PV→PV→PV→Prop):Prop :=
 un 4 (fun v0 v1 v2 v3 =>
  lenP v0 fun r0 =>
  binP .lss v3 r0 fun r1 =>
  iteP r1
   (elemP 1 v0 v3 fun c2 =>
   elemP 1 v1 v3 fun c3 =>
   binP .neq (atP c2 0) (atP c3 0) fun r4 =>
   iteP r4
    (x0k)
    (binP .add v3 (I 1) fun r5 =>
    K [v0,v1,v2,r5]))
   (x1k v0 v1 v2 v3)) v
def Qgi:GM
 | [.one a0,.one a1],k =>
  lenP a0 fun r0 =>
  lenP a1 fun r1 =>
  binP .neq r0 r1 fun r2 =>
  iteP r2
   (rt [.sc] [(.bool false)] k)
   (lp (fun L w=>Qgi_r0 w L
    (rt [.sc] [(.bool false)] k)
    (fun q6 q7 q8 q9=>rt [.sc] [(.bool true)] k)) [a0,a1,(.bool false),(I 0)])
 | _,_=>False
abbrev Qgi_e:Ent:=⟨[93],Qgi⟩
def Qgi_l:List LE:=[⟨none,0,⟨[(0,.one zB),(1,.one zB),(4,.one zB),(5,.one zB)],[],[],0,26,[]⟩,fun K k v=>Qgi_r0 v K (k .ret ⟨[(4,.one (.kb false))],[],[],0,26,[]⟩) (fun x0 x1 x2 x3=>k (.exit 0) ⟨[(0,.one (.pv x0)),(1,.one (.pv x1)),(4,.one (.pv x2)),(5,.one (.pv x3))],[],[],0,26,[]⟩)⟩]
theorem Qgi_s:LEsOK [] TT.nofl (kk [0,1,4,5]) Qgi_l Tryz.f93 Qgi_l:=⟨fun v K k h=>by
 apply un_all h;exact fun v0 v1 v2 v3 h=>km h
 ,trivial⟩
theorem Qgi_w:EntOK Tryz.prog TT Qgi_e:=okF_ tabok (L:=[]) trivial (keep:=(kk [0,1,4,5])) (l:=Qgi_l) Tryz.func93 Qgi_s fun av k h=>by
 unfold Qgi at h;split at h
 ·exact km h
 ·exact h.elim
def Qgj:GM
 | [.agg u0,.agg u1],k=>un 2 (fun a0 a1=>un 2 (fun a2 a3 =>
  call Qgi [.one a0,.one a2] fun o0 =>
  unP .not (atP o0 0) fun r1 =>
  iteP r1
   (rt [.sc] [(.bool false)] k)
   (binP .neq a1 a3 fun r2 =>
   iteP r2
    (rt [.sc] [(.bool false)] k)
    (rt [.sc] [(.bool true)] k))) u1) u0
 | _,_=>False
abbrev Qgj_e:Ent:=⟨[145],Qgj⟩
theorem Qgj_w:EntOK Tryz.prog TT Qgj_e:=okF_ tabok (L:=[Qgi_e]) ⟨Qgi_w,trivial⟩ (keep:=[]) (l:=[]) Tryz.func145 trivial fun av k h=>by
 unfold Qgj at h;split at h
 ·apply un_all h;clear h;intro a0 a1 h;apply un_all h;clear h;intro a2 a3 h;exact km h
 ·exact h.elim
def Qgk:GM
 | [.agg u0,.agg u1],k=>un 16 (fun a0 a1 a2 a3 a4 a5 a6 a7 a8 a9 a10 a11 a12 a13 a14 a15=>un 16 (fun a16 a17 a18 a19 a20 a21 a22 a23 a24 a25 a26 a27 a28 a29 a30 a31 =>
  binP .neq a0 a16 fun r0 =>
  iteP r0
   (rt [.sc] [(.bool false)] k)
   (binP .neq a1 a17 fun r1 =>
   iteP r1
    (rt [.sc] [(.bool false)] k)
    (binP .neq a2 a18 fun r2 =>
    iteP r2
     (rt [.sc] [(.bool false)] k)
     (binP .neq a3 a19 fun r3 =>
     iteP r3
      (rt [.sc] [(.bool false)] k)
      (binP .neq a4 a20 fun r4 =>
      iteP r4
       (rt [.sc] [(.bool false)] k)
       (binP .neq a5 a21 fun r5 =>
       iteP r5
        (rt [.sc] [(.bool false)] k)
        (binP .neq a6 a22 fun r6 =>
        iteP r6
         (rt [.sc] [(.bool false)] k)
         (binP .neq a7 a23 fun r7 =>
         iteP r7
          (rt [.sc] [(.bool false)] k)
          (call Qgj [.agg [a8,a9],.agg [a24,a25]] fun o8 =>
          unP .not (atP o8 0) fun r9 =>
          iteP r9
           (rt [.sc] [(.bool false)] k)
           (call Qgj [.agg [a10,a11],.agg [a26,a27]] fun o10 =>
           unP .not (atP o10 0) fun r11 =>
           iteP r11
            (rt [.sc] [(.bool false)] k)
            (binP .neq a12 a28 fun r12 =>
            iteP r12
             (rt [.sc] [(.bool false)] k)
             (call Qgj [.agg [a13,a14],.agg [a29,a30]] fun o13 =>
             unP .not (atP o13 0) fun r14 =>
             iteP r14
              (rt [.sc] [(.bool false)] k)
              (boolP .neq a15 a31 fun r15 =>
              iteP r15
               (rt [.sc] [(.bool false)] k)
               (rt [.sc] [(.bool true)] k)))))))))))))) u1) u0
 | _,_=>False
abbrev Qgk_e:Ent:=⟨[60],Qgk⟩
theorem Qgk_w:EntOK Tryz.prog TT Qgk_e:=okF_ tabok (L:=[Qgj_e]) ⟨Qgj_w,trivial⟩ (keep:=[]) (l:=[]) Tryz.func60 trivial fun av k h=>by
 unfold Qgk at h;split at h
 ·apply un_all h;clear h;intro a0 a1 a2 a3 a4 a5 a6 a7 a8 a9 a10 a11 a12 a13 a14 a15 h;apply un_all h;clear h;intro a16 a17 a18 a19 a20 a21 a22 a23 a24 a25 a26 a27 a28 a29 a30 a31 h;exact km h
 ·exact h.elim
def Qgl:GM
 | [.agg u0,.agg u1],k=>un 2 (fun a0 a1=>un 2 (fun a2 a3 =>
  binP .neq a0 a2 fun r0 =>
  iteP r0
   (rt [.sc] [(.bool false)] k)
   (binP .neq a1 a3 fun r1 =>
   iteP r1
    (rt [.sc] [(.bool false)] k)
    (rt [.sc] [(.bool true)] k))) u1) u0
 | _,_=>False
abbrev Qgl_e:Ent:=⟨[317],Qgl⟩
theorem Qgl_w:EntOK Tryz.prog TT Qgl_e:=okF_ tabok (L:=[]) trivial (keep:=[]) (l:=[]) Tryz.func317 trivial fun av k h=>by
 unfold Qgl at h;split at h
 ·apply un_all h;clear h;intro a0 a1 h;apply un_all h;clear h;intro a2 a3 h;exact km h
 ·exact h.elim
def Qgm_r0 (v:List PV) (K:List PV→Prop) (x0k:Prop) (x1k:PV→PV→PV→PV→Prop):Prop :=
 un 4 (fun v0 v1 v2 v3 =>
  lenP v0 fun r0 =>
  binP .lss v3 r0 fun r1 =>
  iteP r1
   (elemP 2 v0 v3 fun c2 =>
   elemP 2 v1 v3 fun c3 =>
   call Qgl [.agg [(atP c2 0),(atP c2 1)],.agg [(atP c3 0),(atP c3 1)]] fun o4 =>
   unP .not (atP o4 0) fun r5 =>
   iteP r5
    (x0k)
    (binP .add v3 (I 1) fun r6 =>
    K [v0,v1,v2,r6]))
   (x1k v0 v1 v2 v3)) v
def Qgm:GM
 | [.one a0,.one a1],k =>
  lenP a0 fun r0 =>
  lenP a1 fun r1 =>
  binP .neq r0 r1 fun r2 =>
  iteP r2
   (rt [.sc] [(.bool false)] k)
   (lp (fun L w=>Qgm_r0 w L
    (rt [.sc] [(.bool false)] k)
    (fun q7 q8 q9 q10=>rt [.sc] [(.bool true)] k)) [a0,a1,(.bool false),(I 0)])
 | _,_=>False
abbrev Qgm_e:Ent:=⟨[263],Qgm⟩
def Qgm_l:List LE:=[⟨none,0,⟨[(0,.one zB),(1,.one zB),(4,.one zB),(5,.one zB)],[],[],0,27,[]⟩,fun K k v=>Qgm_r0 v K (k .ret ⟨[(4,.one (.kb false))],[],[],1,27,[]⟩) (fun x0 x1 x2 x3=>k (.exit 0) ⟨[(0,.one (.pv x0)),(1,.one (.pv x1)),(4,.one (.pv x2)),(5,.one (.pv x3))],[],[],0,27,[]⟩)⟩]
theorem Qgm_s:LEsOK [Qgl_e] TT.nofl (kk [0,1,4,5]) Qgm_l Tryz.f263 Qgm_l:=⟨fun v K k h=>by
 apply un_all h;exact fun v0 v1 v2 v3 h=>km h
 ,trivial⟩
theorem Qgm_w:EntOK Tryz.prog TT Qgm_e:=okF_ tabok (L:=[Qgl_e]) ⟨Qgl_w,trivial⟩ (keep:=(kk [0,1,4,5])) (l:=Qgm_l) Tryz.func263 Qgm_s fun av k h=>by
 unfold Qgm at h;split at h
 ·exact km h
 ·exact h.elim
def Qgn:GM
 | [.agg u0,.agg u1],k=>un 17 (fun a0 a1 a2 a3 a4 a5 a6 a7 a8 a9 a10 a11 a12 a13 a14 a15 a16=>un 17 (fun a17 a18 a19 a20 a21 a22 a23 a24 a25 a26 a27 a28 a29 a30 a31 a32 a33 =>
  call Qgk [.agg [a0,a1,a2,a3,a4,a5,a6,a7,a8,a9,a10,a11,a12,a13,a14,a15],.agg [a17,a18,a19,a20,a21,a22,a23,a24,a25,a26,a27,a28,a29,a30,a31,a32]] fun o0 =>
  unP .not (atP o0 0) fun r1 =>
  iteP r1
   (rt [.sc] [(.bool false)] k)
   (call Qgm [.one a16,.one a33] fun o2 =>
   unP .not (atP o2 0) fun r3 =>
   iteP r3
    (rt [.sc] [(.bool false)] k)
    (rt [.sc] [(.bool true)] k))) u1) u0
 | _,_=>False
abbrev Qgn_e:Ent:=⟨[205],Qgn⟩
theorem Qgn_w:EntOK Tryz.prog TT Qgn_e:=okF_ tabok (L:=[Qgk_e,Qgm_e]) ⟨Qgk_w,Qgm_w,trivial⟩ (keep:=[]) (l:=[]) Tryz.func205 trivial fun av k h=>by
 unfold Qgn at h;split at h
 ·apply un_all h;clear h;intro a0 a1 a2 a3 a4 a5 a6 a7 a8 a9 a10 a11 a12 a13 a14 a15 a16 h;apply un_all h;clear h;intro a17 a18 a19 a20 a21 a22 a23 a24 a25 a26 a27 a28 a29 a30 a31 a32 a33 h;exact km h
 ·exact h.elim
def Qgo_r0 (v:List PV) (K:List PV→Prop) (x0k:Prop) (x1k:PV→PV→PV→PV→Prop):Prop :=
 un 4 (fun v0 v1 v2 v3 =>
  lenP v0 fun r0 =>
  binP .lss v3 r0 fun r1 =>
  iteP r1
   (elemP 17 v0 v3 fun c2 =>
   elemP 17 v1 v3 fun c3 =>
   call Qgn [.agg [(atP c2 0),(atP c2 1),(atP c2 2),(atP c2 3),(atP c2 4),(atP c2 5),(atP c2 6),(atP c2 7),(atP c2 8),(atP c2 9),(atP c2 10),(atP c2 11),(atP c2 12),(atP c2 13),(atP c2 14),(atP c2 15),(atP c2 16)],.agg [(atP c3 0),(atP c3 1),(atP c3 2),(atP c3 3),(atP c3 4),(atP c3 5),(atP c3 6),(atP c3 7),(atP c3 8),(atP c3 9),(atP c3 10),(atP c3 11),(atP c3 12),(atP c3 13),(atP c3 14),(atP c3 15),(atP c3 16)]] fun o4 =>
   unP .not (atP o4 0) fun r5 =>
   iteP r5
    (x0k)
    (binP .add v3 (I 1) fun r6 =>
    K [v0,v1,v2,r6]))
   (x1k v0 v1 v2 v3)) v
def Qgo:GM
 | [.one a0,.one a1],k =>
  lenP a0 fun r0 =>
  lenP a1 fun r1 =>
  binP .neq r0 r1 fun r2 =>
  iteP r2
   (rt [.sc] [(.bool false)] k)
   (lp (fun L w=>Qgo_r0 w L
    (rt [.sc] [(.bool false)] k)
    (fun q7 q8 q9 q10=>rt [.sc] [(.bool true)] k)) [a0,a1,(.bool false),(I 0)])
 | _,_=>False
abbrev Qgo_e:Ent:=⟨[123],Qgo⟩
def Qgo_l:List LE:=[⟨none,0,⟨[(0,.one zB),(1,.one zB),(4,.one zB),(5,.one zB)],[],[],0,27,[]⟩,fun K k v=>Qgo_r0 v K (k .ret ⟨[(4,.one (.kb false))],[],[],1,27,[]⟩) (fun x0 x1 x2 x3=>k (.exit 0) ⟨[(0,.one (.pv x0)),(1,.one (.pv x1)),(4,.one (.pv x2)),(5,.one (.pv x3))],[],[],0,27,[]⟩)⟩]
theorem Qgo_s:LEsOK [Qgn_e] TT.nofl (kk [0,1,4,5]) Qgo_l Tryz.f123 Qgo_l:=⟨fun v K k h=>by
 apply un_all h;exact fun v0 v1 v2 v3 h=>km h
 ,trivial⟩
theorem Qgo_w:EntOK Tryz.prog TT Qgo_e:=okF_ tabok (L:=[Qgn_e]) ⟨Qgn_w,trivial⟩ (keep:=(kk [0,1,4,5])) (l:=Qgo_l) Tryz.func123 Qgo_s fun av k h=>by
 unfold Qgo at h;split at h
 ·exact km h
 ·exact h.elim
def Qgp_r0 (v:List PV) (K:List PV→Prop) (x0k:Prop) (x1k:PV→PV→PV→PV→Prop):Prop :=
 un 4 (fun v0 v1 v2 v3 =>
  lenP v0 fun r0 =>
  binP .lss v3 r0 fun r1 =>
  iteP r1
   (elemP 1 v0 v3 fun c2 =>
   elemP 1 v1 v3 fun c3 =>
   binP .neq (atP c2 0) (atP c3 0) fun r4 =>
   iteP r4
    (x0k)
    (binP .add v3 (I 1) fun r5 =>
    K [v0,v1,v2,r5]))
   (x1k v0 v1 v2 v3)) v
def Qgp:GM
 | [.one a0,.one a1],k =>
  lenP a0 fun r0 =>
  lenP a1 fun r1 =>
  binP .neq r0 r1 fun r2 =>
  iteP r2
   (rt [.sc] [(.bool false)] k)
   (lp (fun L w=>Qgp_r0 w L
    (rt [.sc] [(.bool false)] k)
    (fun q6 q7 q8 q9=>rt [.sc] [(.bool true)] k)) [a0,a1,(.bool false),(I 0)])
 | _,_=>False
abbrev Qgp_e:Ent:=⟨[22],Qgp⟩
def Qgp_l:List LE:=[⟨none,0,⟨[(0,.one zB),(1,.one zB),(4,.one zB),(5,.one zB)],[],[],0,26,[]⟩,fun K k v=>Qgp_r0 v K (k .ret ⟨[(4,.one (.kb false))],[],[],0,26,[]⟩) (fun x0 x1 x2 x3=>k (.exit 0) ⟨[(0,.one (.pv x0)),(1,.one (.pv x1)),(4,.one (.pv x2)),(5,.one (.pv x3))],[],[],0,26,[]⟩)⟩]
theorem Qgp_s:LEsOK [] TT.nofl (kk [0,1,4,5]) Qgp_l Tryz.f22 Qgp_l:=⟨fun v K k h=>by
 apply un_all h;exact fun v0 v1 v2 v3 h=>km h
 ,trivial⟩
theorem Qgp_w:EntOK Tryz.prog TT Qgp_e:=okF_ tabok (L:=[]) trivial (keep:=(kk [0,1,4,5])) (l:=Qgp_l) Tryz.func22 Qgp_s fun av k h=>by
 unfold Qgp at h;split at h
 ·exact km h
 ·exact h.elim
def Qgq:GM
 | [.agg u0,.agg u1],k=>un 4 (fun a0 a1 a2 a3=>un 4 (fun a4 a5 a6 a7 =>
  binP .neq a0 a4 fun r0 =>
  iteP r0
   (rt [.sc] [(.bool false)] k)
   (binP .neq a1 a5 fun r1 =>
   iteP r1
    (rt [.sc] [(.bool false)] k)
    (binP .neq a2 a6 fun r2 =>
    iteP r2
     (rt [.sc] [(.bool false)] k)
     (call Qgp [.one a3,.one a7] fun o3 =>
     unP .not (atP o3 0) fun r4 =>
     iteP r4
      (rt [.sc] [(.bool false)] k)
      (rt [.sc] [(.bool true)] k))))) u1) u0
 | _,_=>False
abbrev Qgq_e:Ent:=⟨[92],Qgq⟩
theorem Qgq_w:EntOK Tryz.prog TT Qgq_e:=okF_ tabok (L:=[Qgp_e]) ⟨Qgp_w,trivial⟩ (keep:=[]) (l:=[]) Tryz.func92 trivial fun av k h=>by
 unfold Qgq at h;split at h
 ·apply un_all h;clear h;intro a0 a1 a2 a3 h;apply un_all h;clear h;intro a4 a5 a6 a7 h;exact km h
 ·exact h.elim
def Qgr:GM
 | [.agg u0,.agg u1],k=>un 2 (fun a0 a1=>un 2 (fun a2 a3 =>
  binP .neq a0 a2 fun r0 =>
  iteP r0
   (rt [.sc] [(.bool false)] k)
   (call Qgi [.one a1,.one a3] fun o1 =>
   unP .not (atP o1 0) fun r2 =>
   iteP r2
    (rt [.sc] [(.bool false)] k)
    (rt [.sc] [(.bool true)] k))) u1) u0
 | _,_=>False
abbrev Qgr_e:Ent:=⟨[279],Qgr⟩
theorem Qgr_w:EntOK Tryz.prog TT Qgr_e:=okF_ tabok (L:=[Qgi_e]) ⟨Qgi_w,trivial⟩ (keep:=[]) (l:=[]) Tryz.func279 trivial fun av k h=>by
 unfold Qgr at h;split at h
 ·apply un_all h;clear h;intro a0 a1 h;apply un_all h;clear h;intro a2 a3 h;exact km h
 ·exact h.elim
def Qgs:GM
 | [.agg u0,.agg u1],k=>un 13 (fun a0 a1 a2 a3 a4 a5 a6 a7 a8 a9 a10 a11 a12=>un 13 (fun a13 a14 a15 a16 a17 a18 a19 a20 a21 a22 a23 a24 a25 =>
  binP .neq a0 a13 fun r0 =>
  iteP r0
   (rt [.sc] [(.bool false)] k)
   (call Qgq [.agg [a1,a2,a3,a4],.agg [a14,a15,a16,a17]] fun o1 =>
   unP .not (atP o1 0) fun r2 =>
   iteP r2
    (rt [.sc] [(.bool false)] k)
    (call Qgq [.agg [a5,a6,a7,a8],.agg [a18,a19,a20,a21]] fun o3 =>
    unP .not (atP o3 0) fun r4 =>
    iteP r4
     (rt [.sc] [(.bool false)] k)
     (call Qgr [.agg [a9,a10],.agg [a22,a23]] fun o5 =>
     unP .not (atP o5 0) fun r6 =>
     iteP r6
      (rt [.sc] [(.bool false)] k)
      (call Qgr [.agg [a11,a12],.agg [a24,a25]] fun o7 =>
      unP .not (atP o7 0) fun r8 =>
      iteP r8
       (rt [.sc] [(.bool false)] k)
       (rt [.sc] [(.bool true)] k)))))) u1) u0
 | _,_=>False
abbrev Qgs_e:Ent:=⟨[280],Qgs⟩
theorem Qgs_w:EntOK Tryz.prog TT Qgs_e:=okF_ tabok (L:=[Qgq_e,Qgr_e]) ⟨Qgq_w,Qgr_w,trivial⟩ (keep:=[]) (l:=[]) Tryz.func280 trivial fun av k h=>by
 unfold Qgs at h;split at h
 ·apply un_all h;clear h;intro a0 a1 a2 a3 a4 a5 a6 a7 a8 a9 a10 a11 a12 h;apply un_all h;clear h;intro a13 a14 a15 a16 a17 a18 a19 a20 a21 a22 a23 a24 a25 h;exact km h
 ·exact h.elim
def Qgt:GM
 | [.agg u0,.agg u1],k=>un 21 (fun a0 a1 a2 a3 a4 a5 a6 a7 a8 a9 a10 a11 a12 a13 a14 a15 a16 a17 a18 a19 a20=>un 21 (fun a21 a22 a23 a24 a25 a26 a27 a28 a29 a30 a31 a32 a33 a34 a35 a36 a37 a38 a39 a40 a41 =>
  call Qgo [.one a0,.one a21] fun o0 =>
  unP .not (atP o0 0) fun r1 =>
  iteP r1
   (rt [.sc] [(.bool false)] k)
   (boolP .neq a1 a22 fun r2 =>
   iteP r2
    (rt [.sc] [(.bool false)] k)
    (call Qgq [.agg [a2,a3,a4,a5],.agg [a23,a24,a25,a26]] fun o3 =>
    unP .not (atP o3 0) fun r4 =>
    iteP r4
     (rt [.sc] [(.bool false)] k)
     (call Qgr [.agg [a6,a7],.agg [a27,a28]] fun o5 =>
     unP .not (atP o5 0) fun r6 =>
     iteP r6
      (rt [.sc] [(.bool false)] k)
      (call Qgs [.agg [a8,a9,a10,a11,a12,a13,a14,a15,a16,a17,a18,a19,a20],.agg [a29,a30,a31,a32,a33,a34,a35,a36,a37,a38,a39,a40,a41]] fun o7 =>
      unP .not (atP o7 0) fun r8 =>
      iteP r8
       (rt [.sc] [(.bool false)] k)
       (rt [.sc] [(.bool true)] k)))))) u1) u0
 | _,_=>False
abbrev Qgt_e:Ent:=⟨[220],Qgt⟩
theorem Qgt_w:EntOK Tryz.prog TT Qgt_e:=okF_ tabok (L:=[Qgo_e,Qgq_e,Qgr_e,Qgs_e]) ⟨Qgo_w,Qgq_w,Qgr_w,Qgs_w,trivial⟩ (keep:=[]) (l:=[]) Tryz.func220 trivial fun av k h=>by
 unfold Qgt at h;split at h
 ·apply un_all h;clear h;intro a0 a1 a2 a3 a4 a5 a6 a7 a8 a9 a10 a11 a12 a13 a14 a15 a16 a17 a18 a19 a20 h;apply un_all h;clear h;intro a21 a22 a23 a24 a25 a26 a27 a28 a29 a30 a31 a32 a33 a34 a35 a36 a37 a38 a39 a40 a41 h;exact km h
 ·exact h.elim
def Qgu:GM
 | [.agg u0,.agg u1],k=>un 23 (fun a0 a1 a2 a3 a4 a5 a6 a7 a8 a9 a10 a11 a12 a13 a14 a15 a16 a17 a18 a19 a20 a21 a22=>un 23 (fun a23 a24 a25 a26 a27 a28 a29 a30 a31 a32 a33 a34 a35 a36 a37 a38 a39 a40 a41 a42 a43 a44 a45 =>
  binP .neq a0 a23 fun r0 =>
  iteP r0
   (rt [.sc] [(.bool false)] k)
   (binP .neq a1 a24 fun r1 =>
   iteP r1
    (rt [.sc] [(.bool false)] k)
    (call Qgt [.agg [a2,a3,a4,a5,a6,a7,a8,a9,a10,a11,a12,a13,a14,a15,a16,a17,a18,a19,a20,a21,a22],.agg [a25,a26,a27,a28,a29,a30,a31,a32,a33,a34,a35,a36,a37,a38,a39,a40,a41,a42,a43,a44,a45]] fun o2 =>
    unP .not (atP o2 0) fun r3 =>
    iteP r3
     (rt [.sc] [(.bool false)] k)
     (rt [.sc] [(.bool true)] k)))) u1) u0
 | _,_=>False
abbrev Qgu_e:Ent:=⟨[149],Qgu⟩
theorem Qgu_w:EntOK Tryz.prog TT Qgu_e:=okF_ tabok (L:=[Qgt_e]) ⟨Qgt_w,trivial⟩ (keep:=[]) (l:=[]) Tryz.func149 trivial fun av k h=>by
 unfold Qgu at h;split at h
 ·apply un_all h;clear h;intro a0 a1 a2 a3 a4 a5 a6 a7 a8 a9 a10 a11 a12 a13 a14 a15 a16 a17 a18 a19 a20 a21 a22 h;apply un_all h;clear h;intro a23 a24 a25 a26 a27 a28 a29 a30 a31 a32 a33 a34 a35 a36 a37 a38 a39 a40 a41 a42 a43 a44 a45 h;exact km h
 ·exact h.elim
def Qgv_r0 (v:List PV) (K:List PV→Prop) (x0k:Prop) (x1k:PV→PV→PV→PV→Prop):Prop :=
 un 4 (fun v0 v1 v2 v3 =>
  lenP v0 fun r0 =>
  binP .lss v3 r0 fun r1 =>
  iteP r1
   (elemP 23 v0 v3 fun c2 =>
   elemP 23 v1 v3 fun c3 =>
   call Qgu [.agg [(atP c2 0),(atP c2 1),(atP c2 2),(atP c2 3),(atP c2 4),(atP c2 5),(atP c2 6),(atP c2 7),(atP c2 8),(atP c2 9),(atP c2 10),(atP c2 11),(atP c2 12),(atP c2 13),(atP c2 14),(atP c2 15),(atP c2 16),(atP c2 17),(atP c2 18),(atP c2 19),(atP c2 20),(atP c2 21),(atP c2 22)],.agg [(atP c3 0),(atP c3 1),(atP c3 2),(atP c3 3),(atP c3 4),(atP c3 5),(atP c3 6),(atP c3 7),(atP c3 8),(atP c3 9),(atP c3 10),(atP c3 11),(atP c3 12),(atP c3 13),(atP c3 14),(atP c3 15),(atP c3 16),(atP c3 17),(atP c3 18),(atP c3 19),(atP c3 20),(atP c3 21),(atP c3 22)]] fun o4 =>
   unP .not (atP o4 0) fun r5 =>
   iteP r5
    (x0k)
    (binP .add v3 (I 1) fun r6 =>
    K [v0,v1,v2,r6]))
   (x1k v0 v1 v2 v3)) v
def Qgv:GM
 | [.one a0,.one a1],k =>
  lenP a0 fun r0 =>
  lenP a1 fun r1 =>
  binP .neq r0 r1 fun r2 =>
  iteP r2
   (rt [.sc] [(.bool false)] k)
   (lp (fun L w=>Qgv_r0 w L
    (rt [.sc] [(.bool false)] k)
    (fun q7 q8 q9 q10=>rt [.sc] [(.bool true)] k)) [a0,a1,(.bool false),(I 0)])
 | _,_=>False
abbrev Qgv_e:Ent:=⟨[67],Qgv⟩
def Qgv_l:List LE:=[⟨none,0,⟨[(0,.one zB),(1,.one zB),(4,.one zB),(5,.one zB)],[],[],0,27,[]⟩,fun K k v=>Qgv_r0 v K (k .ret ⟨[(4,.one (.kb false))],[],[],1,27,[]⟩) (fun x0 x1 x2 x3=>k (.exit 0) ⟨[(0,.one (.pv x0)),(1,.one (.pv x1)),(4,.one (.pv x2)),(5,.one (.pv x3))],[],[],0,27,[]⟩)⟩]
theorem Qgv_s:LEsOK [Qgu_e] TT.nofl (kk [0,1,4,5]) Qgv_l Tryz.f67 Qgv_l:=⟨fun v K k h=>by
 apply un_all h;exact fun v0 v1 v2 v3 h=>km h
 ,trivial⟩
theorem Qgv_w:EntOK Tryz.prog TT Qgv_e:=okF_ tabok (L:=[Qgu_e]) ⟨Qgu_w,trivial⟩ (keep:=(kk [0,1,4,5])) (l:=Qgv_l) Tryz.func67 Qgv_s fun av k h=>by
 unfold Qgv at h;split at h
 ·exact km h
 ·exact h.elim
def Qgw_r0 (v:List PV) (K:List PV→Prop) (x0k:PV→Prop) (x1k:PV→PV→PV→PV→PV→Prop):Prop :=
 un 5 (fun v0 v1 v2 v3 v4 =>
  lenP v3 fun r0 =>
  binP .lss v2 r0 fun r1 =>
  iteP r1
   (elemP 2 v3 v2 fun c2 =>
   call Qdf [.agg [(atP c2 0),(atP c2 1)]] fun o3 =>
   binP .eql (atP o3 0) v0 fun r4 =>
   iteP r4
    (binP .geq v0 (I 0) fun r5 =>
    iteP r5
     (x0k v2)
     (binP .add v2 (I 1) fun r6 =>
     K [v0,v1,r6,v3,v4]))
    (binP .add v2 (I 1) fun r7 =>
    K [v0,v1,r7,v3,v4]))
   (x1k v0 v1 v2 v3 v4)) v
def Qgw:GM
 | [.agg u0,.one a2],k=>un 2 (fun a0 a1 =>
  lp (fun L w=>Qgw_r0 w L
   (fun q8=>rt [.sc] [q8] k)
   (fun q9 q10 q11 q12 q13=>rt [.sc] [(I (-1))] k)) [a2,(I 0),(I 0),a0,a1]) u0
 | _,_=>False
abbrev Qgw_e:Ent:=⟨[168],Qgw⟩
def Qgw_l:List LE:=[⟨none,0,⟨[(1,.one zB),(2,.one (.ptr 0 0)),(4,.one zB),(5,.one zB)],[(0,[zB,zB])],[],1,26,[]⟩,fun K k v=>Qgw_r0 v K (fun x0=>k .ret ⟨[(4,.one (.pv x0))],[],[],2,26,[]⟩) (fun x0 x1 x2 x3 x4=>k (.exit 0) ⟨[(1,.one (.pv x0)),(2,.one (.ptr 0 0)),(4,.one (.pv x1)),(5,.one (.pv x2))],[(0,[.pv x3,.pv x4])],[],1,26,[]⟩)⟩]
theorem Qgw_s:LEsOK [Qdf_e] TT (kk [1,2,4,5,22,23,999999]) Qgw_l Tryz.f168 Qgw_l:=⟨fun v K k h=>by
 apply un_all h;exact fun v0 v1 v2 v3 v4 h=>km h
 ,trivial⟩
theorem Qgw_w:EntOK Tryz.prog TT Qgw_e:=ok_ tabok (L:=[Qdf_e]) ⟨Qdf_w,trivial⟩ (keep:=(kk [1,2,4,5,22,23,999999])) (l:=Qgw_l) Tryz.func168 Qgw_s fun av k h=>by
 unfold Qgw at h;split at h
 ·apply un_all h;clear h;intro a0 a1 h;exact km h
 ·exact h.elim
def Qgx_r0 (v:List PV) (K:List PV→Prop) (x0k:PV→Prop) (x1k:PV→PV→PV→PV→Prop):Prop :=
 un 4 (fun v0 v1 v2 v3 =>
  lenP v0 fun r0 =>
  binP .lss v3 r0 fun r1 =>
  iteP r1
   (elemP 4 v0 v3 fun c2 =>
   binP .eql (atP c2 0) v1 fun r3 =>
   iteP r3
    (x0k v3)
    (binP .add v3 (I 1) fun r4 =>
    K [v0,v1,v2,r4]))
   (x1k v0 v1 v2 v3)) v
def Qgx:GM
 | [.one a0,.one a1],k =>
  lp (fun L w=>Qgx_r0 w L
   (fun q5=>rt [.sc] [q5] k)
   (fun q6 q7 q8 q9=>rt [.sc] [(I (-1))] k)) [a0,a1,(I 0),(I 0)]
 | _,_=>False
abbrev Qgx_e:Ent:=⟨[293],Qgx⟩
def Qgx_l:List LE:=[⟨none,0,⟨[(0,.one zB),(1,.one zB),(4,.one zB),(5,.one zB)],[],[],0,20,[]⟩,fun K k v=>Qgx_r0 v K (fun x0=>k .ret ⟨[(4,.one (.pv x0))],[],[],0,20,[]⟩) (fun x0 x1 x2 x3=>k (.exit 0) ⟨[(0,.one (.pv x0)),(1,.one (.pv x1)),(4,.one (.pv x2)),(5,.one (.pv x3))],[],[],0,20,[]⟩)⟩]
theorem Qgx_s:LEsOK [] TT (kk [0,1,4,5,999999]) Qgx_l Tryz.f293 Qgx_l:=⟨fun v K k h=>by
 apply un_all h;exact fun v0 v1 v2 v3 h=>km h
 ,trivial⟩
theorem Qgx_w:EntOK Tryz.prog TT Qgx_e:=ok_ tabok (L:=[]) trivial (keep:=(kk [0,1,4,5,999999])) (l:=Qgx_l) Tryz.func293 Qgx_s fun av k h=>by
 unfold Qgx at h;split at h
 ·exact km h
 ·exact h.elim
def Qgy_r0 (v:List PV) (K:List PV→Prop) (x0k:PV→PV→PV→PV→Prop):Prop :=
 un 4 (fun v0 v1 v2 v3 =>
  lenP v1 fun r0 =>
  binP .gtr r0 (I 1) fun r1 =>
  iteP r1
   (binP .add v0 (I 1) fun r2 =>
   binP .rem v0 (I 2) fun r3 =>
   binP .mul (I 2) r3 fun r4 =>
   binP .sub r2 r4 fun r5 =>
   lenP v1 fun r6 =>
   binP .lss r5 r6 fun r7 =>
   iteP r7
    (elemP 1 v1 r5 fun c8 =>
    (1=1)∧(1≤16777216)∧(1=1)∧(0=0)∧(1=1)∧(flatCond [.pv (I 0)] [.pv (atP c8 0)])∧catP 1 v3 (.list 1 [[(atP c8 0)]]) fun r9 =>
    call Qcz [.one v1] fun o10 =>
    binP .quo v0 (I 2) fun r11 =>
    K [r11,(atP o10 0),v2,r9])
    (call Qcz [.one v1] fun o12 =>
    binP .quo v0 (I 2) fun r13 =>
    K [r13,(atP o12 0),v2,v3]))
   (x0k v0 v1 v2 v3)) v
def Qgy:GM
 | [.one a0,.one a1],k =>
  (0=0)∧(0≤16777216)∧(1=1)∧lenP a0 fun r0 =>
  binP .sub r0 (I 1) fun r1 =>
  call Qbn [.one a1,.one (I 0),.one r1] fun o2 =>
  unP .not (atP o2 0) fun r3 =>
  iteP r3
   (rt [.own true 3 1] [(.list 1 [])] k)
   (lp (fun L w=>Qgy_r0 w L
    (fun q14 q15 q16 q17=>rt [.own true 3 1] [q17] k)) [a1,a0,(.list 1 []),(.list 1 [])])
 | _,_=>False
abbrev Qgy_e:Ent:=⟨[346],Qgy⟩
def Qgy_l:List LE:=[⟨none,0,⟨[(1,.one zB),(4,.one (.own 2)),(5,.one (.own 0)),(6,.one zB)],[],[(2,⟨.deep,3,1,(.bool false)⟩),(0,⟨.deep,3,1,(.bool false)⟩)],3,42,[]⟩,fun K k v=>Qgy_r0 v K (fun x0 x1 x2 x3=>k (.exit 0) ⟨[(1,.one (.pv x0)),(4,.one (.own 2)),(5,.one (.own 0)),(6,.one (.pv x1))],[],[(2,⟨.deep,3,1,x2⟩),(0,⟨.deep,3,1,x3⟩)],3,42,[]⟩)⟩]
theorem Qgy_s:LEsOK [Qbn_e,Qcz_e] TT (kk [1,4,5,6,999999]) Qgy_l Tryz.f346 Qgy_l:=⟨fun v K k h=>by
 apply un_all h;exact fun v0 v1 v2 v3 h=>km h
 ,trivial⟩
theorem Qgy_w:EntOK Tryz.prog TT Qgy_e:=ok_ tabok (L:=[Qbn_e,Qcz_e]) ⟨Qbn_w,Qcz_w,trivial⟩ (keep:=(kk [1,4,5,6,999999])) (l:=Qgy_l) Tryz.func346 Qgy_s fun av k h=>by
 unfold Qgy at h;split at h
 ·exact km h
 ·exact h.elim
def Qgz:GM
 | [.one a0,.one a1],k =>
  call Qgx [.one a0,.one a1] fun o0 =>
  binP .lss (atP o0 0) (I 0) fun r1 =>
  iteP r1
   (rt [.sc,.pv,.sc] [(I 0),(.list 1 []),(.bool false)] k)
   (call Qcx [.one a0] fun o2 =>
   call Qgy [.one (atP o2 0),.one (atP o0 0)] fun o3 =>
   rt [.sc,.pv,.sc] [(atP o0 0),(atP o3 0),(.bool true)] k)
 | _,_=>False
abbrev Qgz_e:Ent:=⟨[294],Qgz⟩
theorem Qgz_w:EntOK Tryz.prog TT Qgz_e:=ok_ tabok (L:=[Qgx_e,Qcx_e,Qgy_e]) ⟨Qgx_w,Qcx_w,Qgy_w,trivial⟩ (keep:=[]) (l:=[]) Tryz.func294 trivial fun av k h=>by
 unfold Qgz at h;split at h
 ·exact km h
 ·exact h.elim
def Qha_r0 (v:List PV) (K:List PV→Prop) (x0k:PV→PV→PV→PV→PV→Prop):Prop :=
 un 5 (fun v0 v1 v2 v3 v4 =>
  lenP v0 fun r0 =>
  binP .lss v4 r0 fun r1 =>
  iteP r1
   (elemP 4 v0 v4 fun c2 =>
   call Qcr [.one (atP c2 0),.one v1] fun o3 =>
   binP .lss (atP o3 0) (I 0) fun r4 =>
   iteP r4
    (binP .add v3 (I 1) fun r5 =>
    binP .add v4 (I 1) fun r6 =>
    K [v0,v1,v2,r5,r6])
    (binP .add v4 (I 1) fun r7 =>
    K [v0,v1,v2,v3,r7]))
   (x0k v0 v1 v2 v3 v4)) v
def Qha:GM
 | [.one a0,.one a1],k =>
  lp (fun L w=>Qha_r0 w L
   (fun q8 q9 q10 q11 q12=>rt [.sc] [q11] k)) [a0,a1,(I 0),(I 0),(I 0)]
 | _,_=>False
abbrev Qha_e:Ent:=⟨[347],Qha⟩
def Qha_l:List LE:=[⟨none,0,⟨[(0,.one zB),(1,.one zB),(4,.one zB),(5,.one zB),(6,.one zB)],[],[],0,24,[]⟩,fun K k v=>Qha_r0 v K (fun x0 x1 x2 x3 x4=>k (.exit 0) ⟨[(0,.one (.pv x0)),(1,.one (.pv x1)),(4,.one (.pv x2)),(5,.one (.pv x3)),(6,.one (.pv x4))],[],[],0,24,[]⟩)⟩]
theorem Qha_s:LEsOK [Qcr_e] TT (kk [0,1,4,5,6,999999]) Qha_l Tryz.f347 Qha_l:=⟨fun v K k h=>by
 apply un_all h;exact fun v0 v1 v2 v3 v4 h=>km h
 ,trivial⟩
theorem Qha_w:EntOK Tryz.prog TT Qha_e:=ok_ tabok (L:=[Qcr_e]) ⟨Qcr_w,trivial⟩ (keep:=(kk [0,1,4,5,6,999999])) (l:=Qha_l) Tryz.func347 Qha_s fun av k h=>by
 unfold Qha at h;split at h
 ·exact km h
 ·exact h.elim
def Qhb:GM
 | [.one a0,.one a1],k =>
  call Qcs [.one a0] fun o0 =>
  unP .not (atP o0 0) fun r1 =>
  iteP r1
   (rt [.sc,.sc,.sc,.sc,.pv,.sc,.sc,.sc,.pv,.sc,.pv,.sc,.pv,.sc] [(I 0),(.str ⟨#[]⟩),(I 0),(I 0),(.list 1 []),(.str ⟨#[]⟩),(I 0),(I 0),(.list 1 []),(I 0),(.list 1 []),(I 0),(.list 1 []),(.bool false)] k)
   (call Qco [.one a1] fun o2 =>
   unP .not (atP o2 0) fun r3 =>
   iteP r3
    (rt [.sc,.sc,.sc,.sc,.pv,.sc,.sc,.sc,.pv,.sc,.pv,.sc,.pv,.sc] [(I 0),(.str ⟨#[]⟩),(I 0),(I 0),(.list 1 []),(.str ⟨#[]⟩),(I 0),(I 0),(.list 1 []),(I 0),(.list 1 []),(I 0),(.list 1 []),(.bool false)] k)
    (call Qgx [.one a0,.one a1] fun o4 =>
    binP .geq (atP o4 0) (I 0) fun r5 =>
    iteP r5
     (rt [.sc,.sc,.sc,.sc,.pv,.sc,.sc,.sc,.pv,.sc,.pv,.sc,.pv,.sc] [(I 0),(.str ⟨#[]⟩),(I 0),(I 0),(.list 1 []),(.str ⟨#[]⟩),(I 0),(I 0),(.list 1 []),(I 0),(.list 1 []),(I 0),(.list 1 []),(.bool false)] k)
     (call Qha [.one a0,.one a1] fun o6 =>
     binP .gtr (atP o6 0) (I 0) fun r7 =>
     iteP r7
      (binP .sub (atP o6 0) (I 1) fun r8 =>
      elemP 4 a0 r8 fun c9 =>
      call Qbi [.agg [(atP c9 0),(atP c9 1),(atP c9 2),(atP c9 3)]] fun o10 =>
      binP .sub (atP o6 0) (I 1) fun r11 =>
      elemP 4 a0 r11 fun c12 =>
      call Qgz [.one a0,.one (atP c12 0)] fun o13 =>
      lenP a0 fun r14 =>
      binP .lss (atP o6 0) r14 fun r15 =>
      iteP r15
       (elemP 4 a0 (atP o6 0) fun c16 =>
       call Qbi [.agg [(atP c16 0),(atP c16 1),(atP c16 2),(atP c16 3)]] fun o17 =>
       elemP 4 a0 (atP o6 0) fun c18 =>
       call Qgz [.one a0,.one (atP c18 0)] fun o19 =>
       rt [.sc,.sc,.sc,.sc,.pv,.sc,.sc,.sc,.pv,.sc,.pv,.sc,.pv,.sc] [(atP o6 0),(atP o10 0),(atP o10 1),(atP o10 2),(atP o10 3),(atP o17 0),(atP o17 1),(atP o17 2),(atP o17 3),(atP o13 0),(atP o13 1),(atP o19 0),(atP o19 1),(.bool true)] k)
       (rt [.sc,.sc,.sc,.sc,.pv,.sc,.sc,.sc,.pv,.sc,.pv,.sc,.pv,.sc] [(atP o6 0),(atP o10 0),(atP o10 1),(atP o10 2),(atP o10 3),(.str ⟨#[]⟩),(I 0),(I 0),(.list 1 []),(atP o13 0),(atP o13 1),(I 0),(.list 1 []),(.bool true)] k))
      (lenP a0 fun r20 =>
      binP .lss (atP o6 0) r20 fun r21 =>
      iteP r21
       (elemP 4 a0 (atP o6 0) fun c22 =>
       call Qbi [.agg [(atP c22 0),(atP c22 1),(atP c22 2),(atP c22 3)]] fun o23 =>
       elemP 4 a0 (atP o6 0) fun c24 =>
       call Qgz [.one a0,.one (atP c24 0)] fun o25 =>
       rt [.sc,.sc,.sc,.sc,.pv,.sc,.sc,.sc,.pv,.sc,.pv,.sc,.pv,.sc] [(atP o6 0),(.str ⟨#[]⟩),(I 0),(I 0),(.list 1 []),(atP o23 0),(atP o23 1),(atP o23 2),(atP o23 3),(I 0),(.list 1 []),(atP o25 0),(atP o25 1),(.bool true)] k)
       (rt [.sc,.sc,.sc,.sc,.pv,.sc,.sc,.sc,.pv,.sc,.pv,.sc,.pv,.sc] [(atP o6 0),(.str ⟨#[]⟩),(I 0),(I 0),(.list 1 []),(.str ⟨#[]⟩),(I 0),(I 0),(.list 1 []),(I 0),(.list 1 []),(I 0),(.list 1 []),(.bool true)] k)))))
 | _,_=>False
abbrev Qhb_e:Ent:=⟨[295],Qhb⟩
theorem Qhb_w:EntOK Tryz.prog TT Qhb_e:=ok_ tabok (L:=[Qcs_e,Qco_e,Qgx_e,Qha_e,Qbi_e,Qgz_e]) ⟨Qcs_w,Qco_w,Qgx_w,Qha_w,Qbi_w,Qgz_w,trivial⟩ (keep:=[]) (l:=[]) Tryz.func295 trivial fun av k h=>by
 unfold Qhb at h;split at h
 ·exact km h
 ·exact h.elim
def Qhc:GM
 | [.agg u0,.one a2],k=>un 2 (fun a0 a1 =>
  call Qde [.agg [a0,a1]] fun o0 =>
  unP .not (atP o0 0) fun r1 =>
  iteP r1
   (rt [.pv,.sc,.sc,.sc,.sc,.pv,.sc,.pv,.sc,.sc,.sc,.sc,.pv,.sc,.sc,.sc,.pv,.sc,.pv,.sc,.pv] [(.list 17 []),(.bool false),(.str ⟨#[]⟩),(I 0),(I 0),(.list 1 []),(I 0),(.list 1 []),(I 0),(.str ⟨#[]⟩),(I 0),(I 0),(.list 1 []),(.str ⟨#[]⟩),(I 0),(I 0),(.list 1 []),(I 0),(.list 1 []),(I 0),(.list 1 [])] k)
   (call Qco [.one a2] fun o2 =>
   unP .not (atP o2 0) fun r3 =>
   iteP r3
    (rt [.pv,.sc,.sc,.sc,.sc,.pv,.sc,.pv,.sc,.sc,.sc,.sc,.pv,.sc,.sc,.sc,.pv,.sc,.pv,.sc,.pv] [(.list 17 []),(.bool false),(.str ⟨#[]⟩),(I 0),(I 0),(.list 1 []),(I 0),(.list 1 []),(I 0),(.str ⟨#[]⟩),(I 0),(I 0),(.list 1 []),(.str ⟨#[]⟩),(I 0),(I 0),(.list 1 []),(I 0),(.list 1 []),(I 0),(.list 1 [])] k)
    (call Qbe [.one a0] fun o4 =>
    call Qgx [.one a1,.one a2] fun o5 =>
    binP .geq (atP o5 0) (I 0) fun r6 =>
    iteP r6
     (elemP 4 a1 (atP o5 0) fun c7 =>
     call Qbi [.agg [(atP c7 0),(atP c7 1),(atP c7 2),(atP c7 3)]] fun o8 =>
     call Qgz [.one a1,.one a2] fun o9 =>
     rt [.pv,.sc,.sc,.sc,.sc,.pv,.sc,.pv,.sc,.sc,.sc,.sc,.pv,.sc,.sc,.sc,.pv,.sc,.pv,.sc,.pv] [(atP o4 0),(.bool true),(atP o8 0),(atP o8 1),(atP o8 2),(atP o8 3),(atP o9 0),(atP o9 1),(I 0),(.str ⟨#[]⟩),(I 0),(I 0),(.list 1 []),(.str ⟨#[]⟩),(I 0),(I 0),(.list 1 []),(I 0),(.list 1 []),(I 0),(.list 1 [])] k)
     (call Qhb [.one a1,.one a2] fun o10 =>
     rt [.pv,.sc,.sc,.sc,.sc,.pv,.sc,.pv,.sc,.sc,.sc,.sc,.pv,.sc,.sc,.sc,.pv,.sc,.pv,.sc,.pv] [(atP o4 0),(.bool false),(.str ⟨#[]⟩),(I 0),(I 0),(.list 1 []),(I 0),(.list 1 []),(atP o10 0),(atP o10 1),(atP o10 2),(atP o10 3),(atP o10 4),(atP o10 5),(atP o10 6),(atP o10 7),(atP o10 8),(atP o10 9),(atP o10 10),(atP o10 11),(atP o10 12)] k)))) u0
 | _,_=>False
abbrev Qhc_e:Ent:=⟨[236],Qhc⟩
theorem Qhc_w:EntOK Tryz.prog TT Qhc_e:=ok_ tabok (L:=[Qde_e,Qco_e,Qbe_e,Qgx_e,Qbi_e,Qgz_e,Qhb_e]) ⟨Qde_w,Qco_w,Qbe_w,Qgx_w,Qbi_w,Qgz_w,Qhb_w,trivial⟩ (keep:=[]) (l:=[]) Tryz.func236 trivial fun av k h=>by
 unfold Qhc at h;split at h
 ·apply un_all h;clear h;intro a0 a1 h;exact km h
 ·exact h.elim
end Go.Ev
