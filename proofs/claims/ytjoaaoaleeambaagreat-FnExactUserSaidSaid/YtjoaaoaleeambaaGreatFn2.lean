/- The tables of this load, and for each function the meaning that the evaluator gives it, with its proof, part 2. -/
import Derived.Test.YtjoaaoaleeambaaGreatFn1
set_option maxRecDepth 100000
set_option linter.unusedVariables false
namespace Go.Ev
open Go.Proofs
def spec_UserSaid_r0 (v : List PV) (K : List PV → Prop) (x0k : PV → PV → PV → PV → PV → PV → PV → PV → Prop) (x1k : PV → PV → PV → PV → PV → PV → PV → PV → PV → PV → Prop) : Prop :=
 un 10 (fun v0 v1 v2 v3 v4 v5 v6 v7 v8 v9 =>
  lenP v7 fun r0 =>
  binP .lss v1 r0 fun r1 =>
  iteP r1
   (elemP 1 v7 v1 fun c2 =>
   call spec_IsGrounded [.agg [v2, v3, v4, v5, v6, v7, v8, v9], .one (atP c2 0)] fun o3 =>
   unP .not (atP o3 0) fun r4 =>
   iteP r4
    (x0k v2 v3 v4 v5 v6 v7 v8 v9)
    (binP .add v1 (I 1) fun r5 =>
    K [v0, r5, v2, v3, v4, v5, v6, v7, v8, v9]))
   (x1k v0 v1 v2 v3 v4 v5 v6 v7 v8 v9)) v
def spec_UserSaid_r1 (v : List PV) (K : List PV → Prop) (x0k : PV → PV → PV → PV → PV → PV → PV → PV → Prop) (x1k : PV → PV → PV → PV → PV → PV → PV → PV → PV → PV → PV → Prop) : Prop :=
 un 11 (fun v0 v1 v2 v3 v4 v5 v6 v7 v8 v9 v10 =>
  lenP v10 fun r0 =>
  binP .lss v2 r0 fun r1 =>
  iteP r1
   (elemP 23 v10 v2 fun c2 =>
   call spec_IsGrounded [.agg [v3, v4, v5, v6, v7, v8, v9, v10], .one (atP c2 2)] fun o3 =>
   unP .not (atP o3 0) fun r4 =>
   iteP r4
    (x0k v3 v4 v5 v6 v7 v8 v9 v10)
    (binP .add v2 (I 1) fun r5 =>
    K [v0, v1, r5, v3, v4, v5, v6, v7, v8, v9, v10]))
   (x1k v0 v1 v2 v3 v4 v5 v6 v7 v8 v9 v10)) v
def spec_UserSaid_r2 (v : List PV) (K : List PV → Prop) (x0k : PV → PV → PV → PV → PV → PV → PV → PV → PV → PV → PV → PV → PV → PV → PV → PV → PV → PV → PV → PV → PV → PV → PV → PV → PV → PV → PV → PV → PV → PV → PV → PV → PV → PV → PV → PV → PV → PV → PV → PV → PV → PV → PV → PV → PV → PV → PV → PV → PV → PV → PV → PV → PV → PV → PV → PV → PV → PV → PV → Prop) (x1k : PV → PV → PV → PV → PV → PV → PV → PV → PV → PV → PV → PV → PV → PV → PV → PV → PV → PV → PV → PV → PV → PV → PV → PV → PV → PV → PV → PV → PV → PV → PV → PV → PV → PV → PV → PV → PV → PV → PV → PV → PV → PV → PV → PV → PV → PV → PV → PV → PV → PV → PV → PV → PV → PV → PV → PV → PV → PV → PV → Prop) (x2k : PV → PV → PV → PV → PV → PV → PV → PV → PV → PV → PV → PV → PV → PV → PV → PV → PV → PV → PV → PV → PV → PV → PV → PV → PV → PV → PV → PV → PV → PV → PV → PV → PV → PV → PV → PV → PV → PV → PV → PV → PV → PV → PV → PV → PV → PV → PV → PV → PV → PV → PV → PV → PV → PV → PV → PV → PV → PV → PV → Prop) (x3k : PV → PV → PV → PV → PV → PV → PV → PV → PV → PV → PV → PV → Prop) : Prop :=
 un 12 (fun v0 v1 v2 v3 v4 v5 v6 v7 v8 v9 v10 v11 =>
  lenP v10 fun r0 =>
  binP .lss v3 r0 fun r1 =>
  iteP r1
   (elemP 51 v10 v3 fun c2 =>
   call spec_EqualSigned [.agg [(atP c2 0), (atP c2 1), (atP c2 2), (atP c2 3), (atP c2 4), (atP c2 5), (atP c2 6), (atP c2 7), (atP c2 8), (atP c2 9), (atP c2 10), (atP c2 11), (atP c2 12), (atP c2 13), (atP c2 14), (atP c2 15), (atP c2 16)], .agg [(I 0), (I 0), (I 0), (I 0), (I 0), (I 0), (I 0), (I 0), (.list 1 []), (I 0), (.list 1 []), (I 0), (I 0), (.list 1 []), (I 0), (.bool false), (.list 2 [])]] fun o3 =>
   unP .not (atP o3 0) fun r4 =>
   iteP r4
    (call spec_l37Head [.agg [v4, v5, v6, v7, v8, v9, v10, v11], .agg [(atP c2 0), (atP c2 1), (atP c2 2), (atP c2 3), (atP c2 4), (atP c2 5), (atP c2 6), (atP c2 7), (atP c2 8), (atP c2 9), (atP c2 10), (atP c2 11), (atP c2 12), (atP c2 13), (atP c2 14), (atP c2 15), (atP c2 16)]] fun o5 =>
    unP .not (atP o5 0) fun r6 =>
    iteP r6
     (x0k (atP c2 0) (atP c2 1) (atP c2 2) (atP c2 3) (atP c2 4) (atP c2 5) (atP c2 6) (atP c2 7) (atP c2 8) (atP c2 9) (atP c2 10) (atP c2 11) (atP c2 12) (atP c2 13) (atP c2 14) (atP c2 15) (atP c2 16) (atP c2 17) (atP c2 18) (atP c2 19) (atP c2 20) (atP c2 21) (atP c2 22) (atP c2 23) (atP c2 24) (atP c2 25) (atP c2 26) (atP c2 27) (atP c2 28) (atP c2 29) (atP c2 30) (atP c2 31) (atP c2 32) (atP c2 33) (atP c2 34) (atP c2 35) (atP c2 36) (atP c2 37) (atP c2 38) (atP c2 39) (atP c2 40) (atP c2 41) (atP c2 42) (atP c2 43) (atP c2 44) (atP c2 45) (atP c2 46) (atP c2 47) (atP c2 48) (atP c2 49) (atP c2 50) v4 v5 v6 v7 v8 v9 v10 v11)
     (call spec_l37Head [.agg [v4, v5, v6, v7, v8, v9, v10, v11], .agg [(atP c2 17), (atP c2 18), (atP c2 19), (atP c2 20), (atP c2 21), (atP c2 22), (atP c2 23), (atP c2 24), (atP c2 25), (atP c2 26), (atP c2 27), (atP c2 28), (atP c2 29), (atP c2 30), (atP c2 31), (atP c2 32), (atP c2 33)]] fun o7 =>
     unP .not (atP o7 0) fun r8 =>
     iteP r8
      (x1k (atP c2 0) (atP c2 1) (atP c2 2) (atP c2 3) (atP c2 4) (atP c2 5) (atP c2 6) (atP c2 7) (atP c2 8) (atP c2 9) (atP c2 10) (atP c2 11) (atP c2 12) (atP c2 13) (atP c2 14) (atP c2 15) (atP c2 16) (atP c2 17) (atP c2 18) (atP c2 19) (atP c2 20) (atP c2 21) (atP c2 22) (atP c2 23) (atP c2 24) (atP c2 25) (atP c2 26) (atP c2 27) (atP c2 28) (atP c2 29) (atP c2 30) (atP c2 31) (atP c2 32) (atP c2 33) (atP c2 34) (atP c2 35) (atP c2 36) (atP c2 37) (atP c2 38) (atP c2 39) (atP c2 40) (atP c2 41) (atP c2 42) (atP c2 43) (atP c2 44) (atP c2 45) (atP c2 46) (atP c2 47) (atP c2 48) (atP c2 49) (atP c2 50) v4 v5 v6 v7 v8 v9 v10 v11)
      (call spec_l37Head [.agg [v4, v5, v6, v7, v8, v9, v10, v11], .agg [(atP c2 34), (atP c2 35), (atP c2 36), (atP c2 37), (atP c2 38), (atP c2 39), (atP c2 40), (atP c2 41), (atP c2 42), (atP c2 43), (atP c2 44), (atP c2 45), (atP c2 46), (atP c2 47), (atP c2 48), (atP c2 49), (atP c2 50)]] fun o9 =>
      unP .not (atP o9 0) fun r10 =>
      iteP r10
       (x2k (atP c2 0) (atP c2 1) (atP c2 2) (atP c2 3) (atP c2 4) (atP c2 5) (atP c2 6) (atP c2 7) (atP c2 8) (atP c2 9) (atP c2 10) (atP c2 11) (atP c2 12) (atP c2 13) (atP c2 14) (atP c2 15) (atP c2 16) (atP c2 17) (atP c2 18) (atP c2 19) (atP c2 20) (atP c2 21) (atP c2 22) (atP c2 23) (atP c2 24) (atP c2 25) (atP c2 26) (atP c2 27) (atP c2 28) (atP c2 29) (atP c2 30) (atP c2 31) (atP c2 32) (atP c2 33) (atP c2 34) (atP c2 35) (atP c2 36) (atP c2 37) (atP c2 38) (atP c2 39) (atP c2 40) (atP c2 41) (atP c2 42) (atP c2 43) (atP c2 44) (atP c2 45) (atP c2 46) (atP c2 47) (atP c2 48) (atP c2 49) (atP c2 50) v4 v5 v6 v7 v8 v9 v10 v11)
       (binP .add v3 (I 1) fun r11 =>
       K [v0, v1, v2, r11, v4, v5, v6, v7, v8, v9, v10, v11]))))
    (call spec_l37Head [.agg [v4, v5, v6, v7, v8, v9, v10, v11], .agg [(atP c2 17), (atP c2 18), (atP c2 19), (atP c2 20), (atP c2 21), (atP c2 22), (atP c2 23), (atP c2 24), (atP c2 25), (atP c2 26), (atP c2 27), (atP c2 28), (atP c2 29), (atP c2 30), (atP c2 31), (atP c2 32), (atP c2 33)]] fun o12 =>
    unP .not (atP o12 0) fun r13 =>
    iteP r13
     (x0k (atP c2 0) (atP c2 1) (atP c2 2) (atP c2 3) (atP c2 4) (atP c2 5) (atP c2 6) (atP c2 7) (atP c2 8) (atP c2 9) (atP c2 10) (atP c2 11) (atP c2 12) (atP c2 13) (atP c2 14) (atP c2 15) (atP c2 16) (atP c2 17) (atP c2 18) (atP c2 19) (atP c2 20) (atP c2 21) (atP c2 22) (atP c2 23) (atP c2 24) (atP c2 25) (atP c2 26) (atP c2 27) (atP c2 28) (atP c2 29) (atP c2 30) (atP c2 31) (atP c2 32) (atP c2 33) (atP c2 34) (atP c2 35) (atP c2 36) (atP c2 37) (atP c2 38) (atP c2 39) (atP c2 40) (atP c2 41) (atP c2 42) (atP c2 43) (atP c2 44) (atP c2 45) (atP c2 46) (atP c2 47) (atP c2 48) (atP c2 49) (atP c2 50) v4 v5 v6 v7 v8 v9 v10 v11)
     (call spec_l37Head [.agg [v4, v5, v6, v7, v8, v9, v10, v11], .agg [(atP c2 34), (atP c2 35), (atP c2 36), (atP c2 37), (atP c2 38), (atP c2 39), (atP c2 40), (atP c2 41), (atP c2 42), (atP c2 43), (atP c2 44), (atP c2 45), (atP c2 46), (atP c2 47), (atP c2 48), (atP c2 49), (atP c2 50)]] fun o14 =>
     unP .not (atP o14 0) fun r15 =>
     iteP r15
      (x1k (atP c2 0) (atP c2 1) (atP c2 2) (atP c2 3) (atP c2 4) (atP c2 5) (atP c2 6) (atP c2 7) (atP c2 8) (atP c2 9) (atP c2 10) (atP c2 11) (atP c2 12) (atP c2 13) (atP c2 14) (atP c2 15) (atP c2 16) (atP c2 17) (atP c2 18) (atP c2 19) (atP c2 20) (atP c2 21) (atP c2 22) (atP c2 23) (atP c2 24) (atP c2 25) (atP c2 26) (atP c2 27) (atP c2 28) (atP c2 29) (atP c2 30) (atP c2 31) (atP c2 32) (atP c2 33) (atP c2 34) (atP c2 35) (atP c2 36) (atP c2 37) (atP c2 38) (atP c2 39) (atP c2 40) (atP c2 41) (atP c2 42) (atP c2 43) (atP c2 44) (atP c2 45) (atP c2 46) (atP c2 47) (atP c2 48) (atP c2 49) (atP c2 50) v4 v5 v6 v7 v8 v9 v10 v11)
      (binP .add v3 (I 1) fun r16 =>
      K [v0, v1, v2, r16, v4, v5, v6, v7, v8, v9, v10, v11]))))
   (x3k v0 v1 v2 v3 v4 v5 v6 v7 v8 v9 v10 v11)) v
def spec_UserSaid : GM
 | [.agg u0], k => un 8 (fun a0 a1 a2 a3 a4 a5 a6 a7 => 
  lp (fun L w => spec_UserSaid_r0 w L
   (fun q6 q7 q8 q9 q10 q11 q12 q13 => rt [.sc] [(.bool false)] k)
   (fun q14 q15 q16 q17 q18 q19 q20 q21 q22 q23 => lp (fun L w => spec_UserSaid_r1 w L
     (fun q24 q25 q26 q27 q28 q29 q30 q31 => rt [.sc] [(.bool false)] k)
     (fun q32 q33 q34 q35 q36 q37 q38 q39 q40 q41 q42 => lp (fun L w => spec_UserSaid_r2 w L
       (fun q43 q44 q45 q46 q47 q48 q49 q50 q51 q52 q53 q54 q55 q56 q57 q58 q59 q60 q61 q62 q63 q64 q65 q66 q67 q68 q69 q70 q71 q72 q73 q74 q75 q76 q77 q78 q79 q80 q81 q82 q83 q84 q85 q86 q87 q88 q89 q90 q91 q92 q93 q94 q95 q96 q97 q98 q99 q100 q101 => rt [.sc] [(.bool false)] k)
       (fun q102 q103 q104 q105 q106 q107 q108 q109 q110 q111 q112 q113 q114 q115 q116 q117 q118 q119 q120 q121 q122 q123 q124 q125 q126 q127 q128 q129 q130 q131 q132 q133 q134 q135 q136 q137 q138 q139 q140 q141 q142 q143 q144 q145 q146 q147 q148 q149 q150 q151 q152 q153 q154 q155 q156 q157 q158 q159 q160 => rt [.sc] [(.bool false)] k)
       (fun q161 q162 q163 q164 q165 q166 q167 q168 q169 q170 q171 q172 q173 q174 q175 q176 q177 q178 q179 q180 q181 q182 q183 q184 q185 q186 q187 q188 q189 q190 q191 q192 q193 q194 q195 q196 q197 q198 q199 q200 q201 q202 q203 q204 q205 q206 q207 q208 q209 q210 q211 q212 q213 q214 q215 q216 q217 q218 q219 => rt [.sc] [(.bool false)] k)
       (fun q220 q221 q222 q223 q224 q225 q226 q227 q228 q229 q230 q231 => rt [.sc] [(.bool true)] k)) [q32, q33, q34, (I 0), q35, q36, q37, q38, q39, q40, q41, q42])) [q14, q15, (I 0), q16, q17, q18, q19, q20, q21, q22, q23])) [(.bool false), (I 0), a0, a1, a2, a3, a4, a5, a6, a7]) u0
 | _, _ => False
abbrev spec_UserSaid_e : Ent := ⟨[42], spec_UserSaid⟩
def spec_UserSaid_l : List LE := [⟨0, ⟨[(1, .one (.ptr 0 0)), (2, .one (.pv (.bool false))), (3, .one (.pv (.bool false)))], [(0, [.pv (.bool false), .pv (.bool false), .pv (.bool false), .pv (.bool false), .pv (.bool false), .pv (.bool false), .pv (.bool false), .pv (.bool false)])], [], 1, 83⟩, fun K k v => spec_UserSaid_r0 v K (fun x0 x1 x2 x3 x4 x5 x6 x7 => k .ret ⟨[(2, .one (.kb false))], [(0, [.pv x0, .pv x1, .pv x2, .pv x3, .pv x4, .pv x5, .pv x6, .pv x7])], [], 2, 83⟩) (fun x0 x1 x2 x3 x4 x5 x6 x7 x8 x9 => k (.exit 0) ⟨[(1, .one (.ptr 0 0)), (2, .one (.pv x0)), (3, .one (.pv x1))], [(0, [.pv x2, .pv x3, .pv x4, .pv x5, .pv x6, .pv x7, .pv x8, .pv x9])], [], 1, 83⟩)⟩,
  ⟨1, ⟨[(1, .one (.ptr 0 0)), (2, .one (.pv (.bool false))), (3, .one (.pv (.bool false))), (4, .one (.pv (.bool false)))], [(0, [.pv (.bool false), .pv (.bool false), .pv (.bool false), .pv (.bool false), .pv (.bool false), .pv (.bool false), .pv (.bool false), .pv (.bool false)])], [], 1, 83⟩, fun K k v => spec_UserSaid_r1 v K (fun x0 x1 x2 x3 x4 x5 x6 x7 => k .ret ⟨[(2, .one (.kb false))], [(0, [.pv x0, .pv x1, .pv x2, .pv x3, .pv x4, .pv x5, .pv x6, .pv x7])], [], 2, 83⟩) (fun x0 x1 x2 x3 x4 x5 x6 x7 x8 x9 x10 => k (.exit 2) ⟨[(1, .one (.ptr 0 0)), (2, .one (.pv x0)), (3, .one (.pv x1)), (4, .one (.pv x2))], [(0, [.pv x3, .pv x4, .pv x5, .pv x6, .pv x7, .pv x8, .pv x9, .pv x10])], [], 1, 83⟩)⟩,
  ⟨2, ⟨[(1, .one (.ptr 0 0)), (2, .one (.pv (.bool false))), (3, .one (.pv (.bool false))), (4, .one (.pv (.bool false))), (5, .one (.pv (.bool false)))], [(0, [.pv (.bool false), .pv (.bool false), .pv (.bool false), .pv (.bool false), .pv (.bool false), .pv (.bool false), .pv (.bool false), .pv (.bool false)])], [], 1, 83⟩, fun K k v => spec_UserSaid_r2 v K (fun x0 x1 x2 x3 x4 x5 x6 x7 x8 x9 x10 x11 x12 x13 x14 x15 x16 x17 x18 x19 x20 x21 x22 x23 x24 x25 x26 x27 x28 x29 x30 x31 x32 x33 x34 x35 x36 x37 x38 x39 x40 x41 x42 x43 x44 x45 x46 x47 x48 x49 x50 x51 x52 x53 x54 x55 x56 x57 x58 => k .ret ⟨[(2, .one (.kb false))], [(1, [.pv x0, .pv x1, .pv x2, .pv x3, .pv x4, .pv x5, .pv x6, .pv x7, .pv x8, .pv x9, .pv x10, .pv x11, .pv x12, .pv x13, .pv x14, .pv x15, .pv x16, .pv x17, .pv x18, .pv x19, .pv x20, .pv x21, .pv x22, .pv x23, .pv x24, .pv x25, .pv x26, .pv x27, .pv x28, .pv x29, .pv x30, .pv x31, .pv x32, .pv x33, .pv x34, .pv x35, .pv x36, .pv x37, .pv x38, .pv x39, .pv x40, .pv x41, .pv x42, .pv x43, .pv x44, .pv x45, .pv x46, .pv x47, .pv x48, .pv x49, .pv x50]), (1, [.pv (I 0), .pv (I 0), .pv (I 0), .pv (I 0), .pv (I 0), .pv (I 0), .pv (I 0), .pv (I 0), .nil 3 1, .pv (I 0), .nil 3 1, .pv (I 0), .pv (I 0), .nil 3 1, .pv (I 0), .pv (.bool false), .nil 251 2, .pv (I 0), .pv (I 0), .pv (I 0), .pv (I 0), .pv (I 0), .pv (I 0), .pv (I 0), .pv (I 0), .nil 3 1, .pv (I 0), .nil 3 1, .pv (I 0), .pv (I 0), .nil 3 1, .pv (I 0), .pv (.bool false), .nil 251 2, .pv (I 0), .pv (I 0), .pv (I 0), .pv (I 0), .pv (I 0), .pv (I 0), .pv (I 0), .pv (I 0), .nil 3 1, .pv (I 0), .nil 3 1, .pv (I 0), .pv (I 0), .nil 3 1, .pv (I 0), .pv (.bool false), .nil 251 2]), (0, [.pv x51, .pv x52, .pv x53, .pv x54, .pv x55, .pv x56, .pv x57, .pv x58])], [], 4, 83⟩) (fun x0 x1 x2 x3 x4 x5 x6 x7 x8 x9 x10 x11 x12 x13 x14 x15 x16 x17 x18 x19 x20 x21 x22 x23 x24 x25 x26 x27 x28 x29 x30 x31 x32 x33 x34 x35 x36 x37 x38 x39 x40 x41 x42 x43 x44 x45 x46 x47 x48 x49 x50 x51 x52 x53 x54 x55 x56 x57 x58 => k .ret ⟨[(2, .one (.kb false))], [(1, [.pv x0, .pv x1, .pv x2, .pv x3, .pv x4, .pv x5, .pv x6, .pv x7, .pv x8, .pv x9, .pv x10, .pv x11, .pv x12, .pv x13, .pv x14, .pv x15, .pv x16, .pv x17, .pv x18, .pv x19, .pv x20, .pv x21, .pv x22, .pv x23, .pv x24, .pv x25, .pv x26, .pv x27, .pv x28, .pv x29, .pv x30, .pv x31, .pv x32, .pv x33, .pv x34, .pv x35, .pv x36, .pv x37, .pv x38, .pv x39, .pv x40, .pv x41, .pv x42, .pv x43, .pv x44, .pv x45, .pv x46, .pv x47, .pv x48, .pv x49, .pv x50]), (1, [.pv (I 0), .pv (I 0), .pv (I 0), .pv (I 0), .pv (I 0), .pv (I 0), .pv (I 0), .pv (I 0), .nil 3 1, .pv (I 0), .nil 3 1, .pv (I 0), .pv (I 0), .nil 3 1, .pv (I 0), .pv (.bool false), .nil 251 2, .pv (I 0), .pv (I 0), .pv (I 0), .pv (I 0), .pv (I 0), .pv (I 0), .pv (I 0), .pv (I 0), .nil 3 1, .pv (I 0), .nil 3 1, .pv (I 0), .pv (I 0), .nil 3 1, .pv (I 0), .pv (.bool false), .nil 251 2, .pv (I 0), .pv (I 0), .pv (I 0), .pv (I 0), .pv (I 0), .pv (I 0), .pv (I 0), .pv (I 0), .nil 3 1, .pv (I 0), .nil 3 1, .pv (I 0), .pv (I 0), .nil 3 1, .pv (I 0), .pv (.bool false), .nil 251 2]), (0, [.pv x51, .pv x52, .pv x53, .pv x54, .pv x55, .pv x56, .pv x57, .pv x58])], [], 5, 83⟩) (fun x0 x1 x2 x3 x4 x5 x6 x7 x8 x9 x10 x11 x12 x13 x14 x15 x16 x17 x18 x19 x20 x21 x22 x23 x24 x25 x26 x27 x28 x29 x30 x31 x32 x33 x34 x35 x36 x37 x38 x39 x40 x41 x42 x43 x44 x45 x46 x47 x48 x49 x50 x51 x52 x53 x54 x55 x56 x57 x58 => k .ret ⟨[(2, .one (.kb false))], [(1, [.pv x0, .pv x1, .pv x2, .pv x3, .pv x4, .pv x5, .pv x6, .pv x7, .pv x8, .pv x9, .pv x10, .pv x11, .pv x12, .pv x13, .pv x14, .pv x15, .pv x16, .pv x17, .pv x18, .pv x19, .pv x20, .pv x21, .pv x22, .pv x23, .pv x24, .pv x25, .pv x26, .pv x27, .pv x28, .pv x29, .pv x30, .pv x31, .pv x32, .pv x33, .pv x34, .pv x35, .pv x36, .pv x37, .pv x38, .pv x39, .pv x40, .pv x41, .pv x42, .pv x43, .pv x44, .pv x45, .pv x46, .pv x47, .pv x48, .pv x49, .pv x50]), (1, [.pv (I 0), .pv (I 0), .pv (I 0), .pv (I 0), .pv (I 0), .pv (I 0), .pv (I 0), .pv (I 0), .nil 3 1, .pv (I 0), .nil 3 1, .pv (I 0), .pv (I 0), .nil 3 1, .pv (I 0), .pv (.bool false), .nil 251 2, .pv (I 0), .pv (I 0), .pv (I 0), .pv (I 0), .pv (I 0), .pv (I 0), .pv (I 0), .pv (I 0), .nil 3 1, .pv (I 0), .nil 3 1, .pv (I 0), .pv (I 0), .nil 3 1, .pv (I 0), .pv (.bool false), .nil 251 2, .pv (I 0), .pv (I 0), .pv (I 0), .pv (I 0), .pv (I 0), .pv (I 0), .pv (I 0), .pv (I 0), .nil 3 1, .pv (I 0), .nil 3 1, .pv (I 0), .pv (I 0), .nil 3 1, .pv (I 0), .pv (.bool false), .nil 251 2]), (0, [.pv x51, .pv x52, .pv x53, .pv x54, .pv x55, .pv x56, .pv x57, .pv x58])], [], 6, 83⟩) (fun x0 x1 x2 x3 x4 x5 x6 x7 x8 x9 x10 x11 => k (.exit 4) ⟨[(1, .one (.ptr 0 0)), (2, .one (.pv x0)), (3, .one (.pv x1)), (4, .one (.pv x2)), (5, .one (.pv x3))], [(0, [.pv x4, .pv x5, .pv x6, .pv x7, .pv x8, .pv x9, .pv x10, .pv x11])], [], 1, 83⟩)⟩]
theorem spec_UserSaid_s : LEsOK (orac [spec_IsGrounded_e, spec_EqualSigned_e, spec_l37Head_e]) TT (kk [1, 2, 3, 4, 5, 63, 64, 65, 66, 67, 70, 71, 72, 73, 74, 77, 78, 79, 80, 81]) (sumsOf spec_UserSaid_l) Tryz.f42 spec_UserSaid_l := ⟨fun v K k h => by
  apply un_all h; exact fun v0 v1 v2 v3 v4 v5 v6 v7 v8 v9 h => Eq.mpr (by kernel_rfl) h
  , fun v K k h => by
  apply un_all h; exact fun v0 v1 v2 v3 v4 v5 v6 v7 v8 v9 v10 h => Eq.mpr (by kernel_rfl) h
  , fun v K k h => by
  apply un_all h; exact fun v0 v1 v2 v3 v4 v5 v6 v7 v8 v9 v10 v11 h => Eq.mpr (by kernel_rfl) h
  , trivial⟩
theorem spec_UserSaid_w : EntOK Tryz.prog TT spec_UserSaid_e := ent_ok tabok (L := [spec_IsGrounded_e, spec_EqualSigned_e, spec_l37Head_e]) ⟨spec_IsGrounded_w, spec_EqualSigned_w, spec_l37Head_w, trivial⟩ (keep := (kk [1, 2, 3, 4, 5, 63, 64, 65, 66, 67, 70, 71, 72, 73, 74, 77, 78, 79, 80, 81])) (l := spec_UserSaid_l) Tryz.func42 (by kernel_rfl) (sg := [.one (.sc)]) (by kernel_rfl) spec_UserSaid_s fun av k h => by
  unfold spec_UserSaid at h; split at h
  · apply un_all h; clear h; intro a0 a1 a2 a3 a4 a5 a6 a7 h; exact Eq.mpr (by kernel_rfl) h
  · exact h.elim

def slices_Equal_Sig_r0 (v : List PV) (K : List PV → Prop) (x0k : Prop) (x1k : PV → PV → PV → PV → PV → Prop) : Prop :=
 un 5 (fun v0 v1 v2 v3 v4 =>
  binP .lss v4 v3 fun r0 =>
  iteP r0
   (elemP 2 v0 v4 fun c1 =>
   elemP 2 v1 v4 fun c2 =>
   (kindsP [.pv (I 0), .pv (I 0)] [(atP c1 0), (atP c1 1)]) ∧ (kindsP [.pv (I 0), .pv (I 0)] [(atP c2 0), (atP c2 1)]) ∧ aggP .neq [(atP c1 0), (atP c1 1)] [(atP c2 0), (atP c2 1)] fun r3 =>
   iteP r3
    (x0k)
    (binP .add v4 (I 1) fun r4 =>
    K [v0, v1, v2, v3, r4]))
   (x1k v0 v1 v2 v3 v4)) v
def slices_Equal_Sig : GM
 | [.one a0, .one a1], k => 
  lenP a0 fun r0 =>
  lenP a1 fun r1 =>
  binP .neq r0 r1 fun r2 =>
  iteP r2
   (rt [.sc] [(.bool false)] k)
   (lenP a0 fun r3 =>
   lp (fun L w => slices_Equal_Sig_r0 w L
    (rt [.sc] [(.bool false)] k)
    (fun q5 q6 q7 q8 q9 => rt [.sc] [(.bool true)] k)) [a0, a1, (.bool false), r3, (I 0)])
 | _, _ => False
abbrev slices_Equal_Sig_e : Ent := ⟨[287], slices_Equal_Sig⟩
def slices_Equal_Sig_l : List LE := [⟨0, ⟨[(0, .one (.pv (.bool false))), (1, .one (.pv (.bool false))), (4, .one (.pv (.bool false))), (12, .one (.pv (.bool false))), (13, .one (.pv (.bool false)))], [], [], 0, 26⟩, fun K k v => slices_Equal_Sig_r0 v K (k .ret ⟨[(4, .one (.kb false))], [], [], 0, 26⟩) (fun x0 x1 x2 x3 x4 => k (.exit 0) ⟨[(0, .one (.pv x0)), (1, .one (.pv x1)), (4, .one (.pv x2)), (12, .one (.pv x3)), (13, .one (.pv x4))], [], [], 0, 26⟩)⟩]
theorem slices_Equal_Sig_s : LEsOK (orac []) TT (kk [0, 1, 4, 12, 13]) (sumsOf slices_Equal_Sig_l) Tryz.f287 slices_Equal_Sig_l := ⟨fun v K k h => by
  apply un_all h; exact fun v0 v1 v2 v3 v4 h => Eq.mpr (by kernel_rfl) h
  , trivial⟩
theorem slices_Equal_Sig_w : EntOK Tryz.prog TT slices_Equal_Sig_e := ent_ok tabok (L := []) trivial (keep := (kk [0, 1, 4, 12, 13])) (l := slices_Equal_Sig_l) Tryz.func287 (by kernel_rfl) (sg := [.one (.sc)]) (by kernel_rfl) slices_Equal_Sig_s fun av k h => by
  unfold slices_Equal_Sig at h; split at h
  · exact Eq.mpr (by kernel_rfl) h
  · exact h.elim

def impl_EqualSigned : GM
 | [.agg u0, .agg u1], k => un 17 (fun a0 a1 a2 a3 a4 a5 a6 a7 a8 a9 a10 a11 a12 a13 a14 a15 a16 => un 17 (fun a17 a18 a19 a20 a21 a22 a23 a24 a25 a26 a27 a28 a29 a30 a31 a32 a33 => 
  call impl_EqualHeads [.agg [a0, a1, a2, a3, a4, a5, a6, a7, a8, a9, a10, a11, a12, a13, a14, a15], .agg [a17, a18, a19, a20, a21, a22, a23, a24, a25, a26, a27, a28, a29, a30, a31, a32]] fun o0 =>
  iteP (atP o0 0)
   (call slices_Equal_Sig [.one a16, .one a33] fun o1 =>
   rt [.sc] [(atP o1 0)] k)
   (rt [.sc] [(.bool false)] k)) u1) u0
 | _, _ => False
abbrev impl_EqualSigned_e : Ent := ⟨[214], impl_EqualSigned⟩
theorem impl_EqualSigned_w : EntOK Tryz.prog TT impl_EqualSigned_e := ent_ok tabok (L := [impl_EqualHeads_e, slices_Equal_Sig_e]) ⟨impl_EqualHeads_w, slices_Equal_Sig_w, trivial⟩ (keep := []) (l := []) Tryz.func214 (by kernel_rfl) (sg := [.one (.sc)]) (by kernel_rfl) trivial fun av k h => by
  unfold impl_EqualSigned at h; split at h
  · apply un_all h; clear h; intro a0 a1 a2 a3 a4 a5 a6 a7 a8 a9 a10 a11 a12 a13 a14 a15 a16 h; apply un_all h; clear h; intro a17 a18 a19 a20 a21 a22 a23 a24 a25 a26 a27 a28 a29 a30 a31 a32 a33 h; exact Eq.mpr (by kernel_rfl) h
  · exact h.elim

def impl_World_isHeadSaid_1_1 : GM
 | [.agg u0, .ro (.cells u1)], k => un 17 (fun a0 a1 a2 a3 a4 a5 a6 a7 a8 a9 a10 a11 a12 a13 a14 a15 a16 => un 16 (fun a17 a18 a19 a20 a21 a22 a23 a24 a25 a26 a27 a28 a29 a30 a31 a32 => 
  call impl_EqualHeads [.agg [a0, a1, a2, a3, a4, a5, a6, a7, a8, a9, a10, a11, a12, a13, a14, a15], .agg [a17, a18, a19, a20, a21, a22, a23, a24, a25, a26, a27, a28, a29, a30, a31, a32]] fun o0 =>
  rt [.sc] [(atP o0 0)] k) u1) u0
 | _, _ => False
abbrev impl_World_isHeadSaid_1_1_e : Ent := ⟨[290], impl_World_isHeadSaid_1_1⟩
theorem impl_World_isHeadSaid_1_1_w : EntOK Tryz.prog TT impl_World_isHeadSaid_1_1_e := ent_ok tabok (L := [impl_EqualHeads_e]) ⟨impl_EqualHeads_w, trivial⟩ (keep := []) (l := []) Tryz.func290 (by kernel_rfl) (sg := [.one (.sc)]) (by kernel_rfl) trivial fun av k h => by
  unfold impl_World_isHeadSaid_1_1 at h; split at h
  · apply un_all h; clear h; intro a0 a1 a2 a3 a4 a5 a6 a7 a8 a9 a10 a11 a12 a13 a14 a15 a16 h; apply un_all h; clear h; intro a17 a18 a19 a20 a21 a22 a23 a24 a25 a26 a27 a28 a29 a30 a31 a32 h; exact Eq.mpr (by kernel_rfl) h
  · exact h.elim

def slices_IndexFunc_Signed_1_F_impl_World_isHeadSaid_1_1_r0 (v : List PV) (K : List PV → Prop) (x0k : PV → Prop) (x1k : PV → PV → PV → PV → PV → PV → PV → PV → PV → PV → PV → PV → PV → PV → PV → PV → PV → PV → PV → PV → Prop) : Prop :=
 un 20 (fun v0 v1 v2 v3 v4 v5 v6 v7 v8 v9 v10 v11 v12 v13 v14 v15 v16 v17 v18 v19 =>
  binP .lss v19 v18 fun r0 =>
  iteP r0
   (elemP 17 v0 v19 fun c1 =>
   call impl_World_isHeadSaid_1_1 [.agg [(atP c1 0), (atP c1 1), (atP c1 2), (atP c1 3), (atP c1 4), (atP c1 5), (atP c1 6), (atP c1 7), (atP c1 8), (atP c1 9), (atP c1 10), (atP c1 11), (atP c1 12), (atP c1 13), (atP c1 14), (atP c1 15), (atP c1 16)], .ro (.cells [v1, v2, v3, v4, v5, v6, v7, v8, v9, v10, v11, v12, v13, v14, v15, v16])] fun o2 =>
   iteP (atP o2 0)
    (x0k v19)
    (binP .add v19 (I 1) fun r3 =>
    K [v0, v1, v2, v3, v4, v5, v6, v7, v8, v9, v10, v11, v12, v13, v14, v15, v16, v17, v18, r3]))
   (x1k v0 v1 v2 v3 v4 v5 v6 v7 v8 v9 v10 v11 v12 v13 v14 v15 v16 v17 v18 v19)) v
def slices_IndexFunc_Signed_1_F_impl_World_isHeadSaid_1_1 : GM
 | [.one a0, .fn 290 [.cells u0]], k => un 16 (fun a1 a2 a3 a4 a5 a6 a7 a8 a9 a10 a11 a12 a13 a14 a15 a16 => 
  lenP a0 fun r0 =>
  lp (fun L w => slices_IndexFunc_Signed_1_F_impl_World_isHeadSaid_1_1_r0 w L
   (fun q4 => rt [.sc] [q4] k)
   (fun q5 q6 q7 q8 q9 q10 q11 q12 q13 q14 q15 q16 q17 q18 q19 q20 q21 q22 q23 q24 => rt [.sc] [(I (-1))] k)) [a0, a1, a2, a3, a4, a5, a6, a7, a8, a9, a10, a11, a12, a13, a14, a15, a16, (I 0), r0, (I 0)]) u0
 | _, _ => False
abbrev slices_IndexFunc_Signed_1_F_impl_World_isHeadSaid_1_1_e : Ent := ⟨[331, 290], slices_IndexFunc_Signed_1_F_impl_World_isHeadSaid_1_1⟩
def slices_IndexFunc_Signed_1_F_impl_World_isHeadSaid_1_1_l : List LE := [⟨0, ⟨[(0, .one (.pv (.bool false))), (1, .one (.fn 290 [.ro (.cells [(.bool false), (.bool false), (.bool false), (.bool false), (.bool false), (.bool false), (.bool false), (.bool false), (.bool false), (.bool false), (.bool false), (.bool false), (.bool false), (.bool false), (.bool false), (.bool false)])])), (4, .one (.pv (.bool false))), (7, .one (.pv (.bool false))), (8, .one (.pv (.bool false)))], [], [], 0, 19⟩, fun K k v => slices_IndexFunc_Signed_1_F_impl_World_isHeadSaid_1_1_r0 v K (fun x0 => k .ret ⟨[(4, .one (.pv x0))], [], [], 1, 19⟩) (fun x0 x1 x2 x3 x4 x5 x6 x7 x8 x9 x10 x11 x12 x13 x14 x15 x16 x17 x18 x19 => k (.exit 0) ⟨[(0, .one (.pv x0)), (1, .one (.fn 290 [.ro (.cells [x1, x2, x3, x4, x5, x6, x7, x8, x9, x10, x11, x12, x13, x14, x15, x16])])), (4, .one (.pv x17)), (7, .one (.pv x18)), (8, .one (.pv x19))], [], [], 0, 19⟩)⟩]
theorem slices_IndexFunc_Signed_1_F_impl_World_isHeadSaid_1_1_s : LEsOK (orac [impl_World_isHeadSaid_1_1_e]) TT (kk [0, 1, 4, 7, 8]) (sumsOf slices_IndexFunc_Signed_1_F_impl_World_isHeadSaid_1_1_l) Tryz.f331 slices_IndexFunc_Signed_1_F_impl_World_isHeadSaid_1_1_l := ⟨fun v K k h => by
  apply un_all h; exact fun v0 v1 v2 v3 v4 v5 v6 v7 v8 v9 v10 v11 v12 v13 v14 v15 v16 v17 v18 v19 h => Eq.mpr (by kernel_rfl) h
  , trivial⟩
theorem slices_IndexFunc_Signed_1_F_impl_World_isHeadSaid_1_1_w : EntOK Tryz.prog TT slices_IndexFunc_Signed_1_F_impl_World_isHeadSaid_1_1_e := ent_ok tabok (L := [impl_World_isHeadSaid_1_1_e]) ⟨impl_World_isHeadSaid_1_1_w, trivial⟩ (keep := (kk [0, 1, 4, 7, 8])) (l := slices_IndexFunc_Signed_1_F_impl_World_isHeadSaid_1_1_l) Tryz.func331 (by kernel_rfl) (sg := [.one (.sc)]) (by kernel_rfl) slices_IndexFunc_Signed_1_F_impl_World_isHeadSaid_1_1_s fun av k h => by
  unfold slices_IndexFunc_Signed_1_F_impl_World_isHeadSaid_1_1 at h; split at h
  · apply un_all h; clear h; intro a1 a2 a3 a4 a5 a6 a7 a8 a9 a10 a11 a12 a13 a14 a15 a16 h; exact Eq.mpr (by kernel_rfl) h
  · exact h.elim

def slices_ContainsFunc_Signed_F_impl_World_isHeadSaid_1_1 : GM
 | [.one a0, .fn 290 [.cells u0]], k => un 16 (fun a1 a2 a3 a4 a5 a6 a7 a8 a9 a10 a11 a12 a13 a14 a15 a16 => 
  call slices_IndexFunc_Signed_1_F_impl_World_isHeadSaid_1_1 [.one a0, .fn 290 [.cells [a1, a2, a3, a4, a5, a6, a7, a8, a9, a10, a11, a12, a13, a14, a15, a16]]] fun o0 =>
  binP .geq (atP o0 0) (I 0) fun r1 =>
  rt [.sc] [r1] k) u0
 | _, _ => False
abbrev slices_ContainsFunc_Signed_F_impl_World_isHeadSaid_1_1_e : Ent := ⟨[289, 290], slices_ContainsFunc_Signed_F_impl_World_isHeadSaid_1_1⟩
theorem slices_ContainsFunc_Signed_F_impl_World_isHeadSaid_1_1_w : EntOK Tryz.prog TT slices_ContainsFunc_Signed_F_impl_World_isHeadSaid_1_1_e := ent_ok tabok (L := [slices_IndexFunc_Signed_1_F_impl_World_isHeadSaid_1_1_e]) ⟨slices_IndexFunc_Signed_1_F_impl_World_isHeadSaid_1_1_w, trivial⟩ (keep := []) (l := []) Tryz.func289 (by kernel_rfl) (sg := [.one (.sc)]) (by kernel_rfl) trivial fun av k h => by
  unfold slices_ContainsFunc_Signed_F_impl_World_isHeadSaid_1_1 at h; split at h
  · apply un_all h; clear h; intro a1 a2 a3 a4 a5 a6 a7 a8 a9 a10 a11 a12 a13 a14 a15 a16 h; exact Eq.mpr (by kernel_rfl) h
  · exact h.elim

def impl_World_isHeadSaid_1 : GM
 | [.agg u0, .ro (.cells u1)], k => un 2 (fun a0 a1 => un 16 (fun a2 a3 a4 a5 a6 a7 a8 a9 a10 a11 a12 a13 a14 a15 a16 a17 => 
  call slices_ContainsFunc_Signed_F_impl_World_isHeadSaid_1_1 [.one a0, .fn 290 [.cells [a2, a3, a4, a5, a6, a7, a8, a9, a10, a11, a12, a13, a14, a15, a16, a17]]] fun o0 =>
  rt [.sc] [(atP o0 0)] k) u1) u0
 | _, _ => False
abbrev impl_World_isHeadSaid_1_e : Ent := ⟨[288], impl_World_isHeadSaid_1⟩
theorem impl_World_isHeadSaid_1_w : EntOK Tryz.prog TT impl_World_isHeadSaid_1_e := ent_ok tabok (L := [slices_ContainsFunc_Signed_F_impl_World_isHeadSaid_1_1_e]) ⟨slices_ContainsFunc_Signed_F_impl_World_isHeadSaid_1_1_w, trivial⟩ (keep := []) (l := []) Tryz.func288 (by kernel_rfl) (sg := [.one (.sc)]) (by kernel_rfl) trivial fun av k h => by
  unfold impl_World_isHeadSaid_1 at h; split at h
  · apply un_all h; clear h; intro a0 a1 h; apply un_all h; clear h; intro a2 a3 a4 a5 a6 a7 a8 a9 a10 a11 a12 a13 a14 a15 a16 a17 h; exact Eq.mpr (by kernel_rfl) h
  · exact h.elim

def impl_World_someSaid_1_F_impl_World_isHeadSaid_1 : GM
 | [.agg u0, .ro (.fn 288 [u1])], k => un 3 (fun a0 a1 a2 => un 16 (fun a3 a4 a5 a6 a7 a8 a9 a10 a11 a12 a13 a14 a15 a16 a17 a18 => 
  call impl_World_isHeadSaid_1 [.agg [a0, a1], .ro (.cells [a3, a4, a5, a6, a7, a8, a9, a10, a11, a12, a13, a14, a15, a16, a17, a18])] fun o0 =>
  rt [.sc] [(atP o0 0)] k) u1) u0
 | _, _ => False
abbrev impl_World_someSaid_1_F_impl_World_isHeadSaid_1_e : Ent := ⟨[199, 288], impl_World_someSaid_1_F_impl_World_isHeadSaid_1⟩
theorem impl_World_someSaid_1_F_impl_World_isHeadSaid_1_w : EntOK Tryz.prog TT impl_World_someSaid_1_F_impl_World_isHeadSaid_1_e := ent_ok tabok (L := [impl_World_isHeadSaid_1_e]) ⟨impl_World_isHeadSaid_1_w, trivial⟩ (keep := []) (l := []) Tryz.func199 (by kernel_rfl) (sg := [.one (.sc)]) (by kernel_rfl) trivial fun av k h => by
  unfold impl_World_someSaid_1_F_impl_World_isHeadSaid_1 at h; split at h
  · apply un_all h; clear h; intro a0 a1 a2 h; apply un_all h; clear h; intro a3 a4 a5 a6 a7 a8 a9 a10 a11 a12 a13 a14 a15 a16 a17 a18 h; exact Eq.mpr (by kernel_rfl) h
  · exact h.elim

def slices_IndexFunc_Said_F_impl_World_someSaid_1_F_impl_World_isHeadSaid_1_r0 (v : List PV) (K : List PV → Prop) (x0k : PV → Prop) (x1k : PV → PV → PV → PV → PV → PV → PV → PV → PV → PV → PV → PV → PV → PV → PV → PV → PV → PV → PV → PV → Prop) : Prop :=
 un 20 (fun v0 v1 v2 v3 v4 v5 v6 v7 v8 v9 v10 v11 v12 v13 v14 v15 v16 v17 v18 v19 =>
  binP .lss v19 v18 fun r0 =>
  iteP r0
   (elemP 3 v0 v19 fun c1 =>
   call impl_World_someSaid_1_F_impl_World_isHeadSaid_1 [.agg [(atP c1 0), (atP c1 1), (atP c1 2)], .ro (.fn 288 [[v1, v2, v3, v4, v5, v6, v7, v8, v9, v10, v11, v12, v13, v14, v15, v16]])] fun o2 =>
   iteP (atP o2 0)
    (x0k v19)
    (binP .add v19 (I 1) fun r3 =>
    K [v0, v1, v2, v3, v4, v5, v6, v7, v8, v9, v10, v11, v12, v13, v14, v15, v16, v17, v18, r3]))
   (x1k v0 v1 v2 v3 v4 v5 v6 v7 v8 v9 v10 v11 v12 v13 v14 v15 v16 v17 v18 v19)) v
def slices_IndexFunc_Said_F_impl_World_someSaid_1_F_impl_World_isHeadSaid_1 : GM
 | [.one a0, .fn 199 [.fn 288 [u0]]], k => un 16 (fun a1 a2 a3 a4 a5 a6 a7 a8 a9 a10 a11 a12 a13 a14 a15 a16 => 
  lenP a0 fun r0 =>
  lp (fun L w => slices_IndexFunc_Said_F_impl_World_someSaid_1_F_impl_World_isHeadSaid_1_r0 w L
   (fun q4 => rt [.sc] [q4] k)
   (fun q5 q6 q7 q8 q9 q10 q11 q12 q13 q14 q15 q16 q17 q18 q19 q20 q21 q22 q23 q24 => rt [.sc] [(I (-1))] k)) [a0, a1, a2, a3, a4, a5, a6, a7, a8, a9, a10, a11, a12, a13, a14, a15, a16, (I 0), r0, (I 0)]) u0
 | _, _ => False
abbrev slices_IndexFunc_Said_F_impl_World_someSaid_1_F_impl_World_isHeadSaid_1_e : Ent := ⟨[250, 199, 288], slices_IndexFunc_Said_F_impl_World_someSaid_1_F_impl_World_isHeadSaid_1⟩
def slices_IndexFunc_Said_F_impl_World_someSaid_1_F_impl_World_isHeadSaid_1_l : List LE := [⟨0, ⟨[(0, .one (.pv (.bool false))), (1, .one (.fn 199 [.ro (.fn 288 [[(.bool false), (.bool false), (.bool false), (.bool false), (.bool false), (.bool false), (.bool false), (.bool false), (.bool false), (.bool false), (.bool false), (.bool false), (.bool false), (.bool false), (.bool false), (.bool false)]])])), (4, .one (.pv (.bool false))), (7, .one (.pv (.bool false))), (8, .one (.pv (.bool false)))], [], [], 0, 19⟩, fun K k v => slices_IndexFunc_Said_F_impl_World_someSaid_1_F_impl_World_isHeadSaid_1_r0 v K (fun x0 => k .ret ⟨[(4, .one (.pv x0))], [], [], 1, 19⟩) (fun x0 x1 x2 x3 x4 x5 x6 x7 x8 x9 x10 x11 x12 x13 x14 x15 x16 x17 x18 x19 => k (.exit 0) ⟨[(0, .one (.pv x0)), (1, .one (.fn 199 [.ro (.fn 288 [[x1, x2, x3, x4, x5, x6, x7, x8, x9, x10, x11, x12, x13, x14, x15, x16]])])), (4, .one (.pv x17)), (7, .one (.pv x18)), (8, .one (.pv x19))], [], [], 0, 19⟩)⟩]
theorem slices_IndexFunc_Said_F_impl_World_someSaid_1_F_impl_World_isHeadSaid_1_s : LEsOK (orac [impl_World_someSaid_1_F_impl_World_isHeadSaid_1_e]) TT (kk [0, 1, 4, 7, 8]) (sumsOf slices_IndexFunc_Said_F_impl_World_someSaid_1_F_impl_World_isHeadSaid_1_l) Tryz.f250 slices_IndexFunc_Said_F_impl_World_someSaid_1_F_impl_World_isHeadSaid_1_l := ⟨fun v K k h => by
  apply un_all h; exact fun v0 v1 v2 v3 v4 v5 v6 v7 v8 v9 v10 v11 v12 v13 v14 v15 v16 v17 v18 v19 h => Eq.mpr (by kernel_rfl) h
  , trivial⟩
theorem slices_IndexFunc_Said_F_impl_World_someSaid_1_F_impl_World_isHeadSaid_1_w : EntOK Tryz.prog TT slices_IndexFunc_Said_F_impl_World_someSaid_1_F_impl_World_isHeadSaid_1_e := ent_ok tabok (L := [impl_World_someSaid_1_F_impl_World_isHeadSaid_1_e]) ⟨impl_World_someSaid_1_F_impl_World_isHeadSaid_1_w, trivial⟩ (keep := (kk [0, 1, 4, 7, 8])) (l := slices_IndexFunc_Said_F_impl_World_someSaid_1_F_impl_World_isHeadSaid_1_l) Tryz.func250 (by kernel_rfl) (sg := [.one (.sc)]) (by kernel_rfl) slices_IndexFunc_Said_F_impl_World_someSaid_1_F_impl_World_isHeadSaid_1_s fun av k h => by
  unfold slices_IndexFunc_Said_F_impl_World_someSaid_1_F_impl_World_isHeadSaid_1 at h; split at h
  · apply un_all h; clear h; intro a1 a2 a3 a4 a5 a6 a7 a8 a9 a10 a11 a12 a13 a14 a15 a16 h; exact Eq.mpr (by kernel_rfl) h
  · exact h.elim

def slices_ContainsFunc_Said_F_impl_World_someSaid_1_F_impl_World_isHeadSaid_1 : GM
 | [.one a0, .fn 199 [.fn 288 [u0]]], k => un 16 (fun a1 a2 a3 a4 a5 a6 a7 a8 a9 a10 a11 a12 a13 a14 a15 a16 => 
  call slices_IndexFunc_Said_F_impl_World_someSaid_1_F_impl_World_isHeadSaid_1 [.one a0, .fn 199 [.fn 288 [[a1, a2, a3, a4, a5, a6, a7, a8, a9, a10, a11, a12, a13, a14, a15, a16]]]] fun o0 =>
  binP .geq (atP o0 0) (I 0) fun r1 =>
  rt [.sc] [r1] k) u0
 | _, _ => False
abbrev slices_ContainsFunc_Said_F_impl_World_someSaid_1_F_impl_World_isHeadSaid_1_e : Ent := ⟨[162, 199, 288], slices_ContainsFunc_Said_F_impl_World_someSaid_1_F_impl_World_isHeadSaid_1⟩
theorem slices_ContainsFunc_Said_F_impl_World_someSaid_1_F_impl_World_isHeadSaid_1_w : EntOK Tryz.prog TT slices_ContainsFunc_Said_F_impl_World_someSaid_1_F_impl_World_isHeadSaid_1_e := ent_ok tabok (L := [slices_IndexFunc_Said_F_impl_World_someSaid_1_F_impl_World_isHeadSaid_1_e]) ⟨slices_IndexFunc_Said_F_impl_World_someSaid_1_F_impl_World_isHeadSaid_1_w, trivial⟩ (keep := []) (l := []) Tryz.func162 (by kernel_rfl) (sg := [.one (.sc)]) (by kernel_rfl) trivial fun av k h => by
  unfold slices_ContainsFunc_Said_F_impl_World_someSaid_1_F_impl_World_isHeadSaid_1 at h; split at h
  · apply un_all h; clear h; intro a1 a2 a3 a4 a5 a6 a7 a8 a9 a10 a11 a12 a13 a14 a15 a16 h; exact Eq.mpr (by kernel_rfl) h
  · exact h.elim

def impl_World_someSaid_F_impl_World_isHeadSaid_1 : GM
 | [.agg u0, .fn 288 [.cells u1]], k => un 8 (fun a0 a1 a2 a3 a4 a5 a6 a7 => un 16 (fun a8 a9 a10 a11 a12 a13 a14 a15 a16 a17 a18 a19 a20 a21 a22 a23 => 
  call slices_ContainsFunc_Said_F_impl_World_someSaid_1_F_impl_World_isHeadSaid_1 [.one a3, .fn 199 [.fn 288 [[a8, a9, a10, a11, a12, a13, a14, a15, a16, a17, a18, a19, a20, a21, a22, a23]]]] fun o0 =>
  rt [.sc] [(atP o0 0)] k) u1) u0
 | _, _ => False
abbrev impl_World_someSaid_F_impl_World_isHeadSaid_1_e : Ent := ⟨[93, 288], impl_World_someSaid_F_impl_World_isHeadSaid_1⟩
theorem impl_World_someSaid_F_impl_World_isHeadSaid_1_w : EntOK Tryz.prog TT impl_World_someSaid_F_impl_World_isHeadSaid_1_e := ent_ok tabok (L := [slices_ContainsFunc_Said_F_impl_World_someSaid_1_F_impl_World_isHeadSaid_1_e]) ⟨slices_ContainsFunc_Said_F_impl_World_someSaid_1_F_impl_World_isHeadSaid_1_w, trivial⟩ (keep := []) (l := []) Tryz.func93 (by kernel_rfl) (sg := [.one (.sc)]) (by kernel_rfl) trivial fun av k h => by
  unfold impl_World_someSaid_F_impl_World_isHeadSaid_1 at h; split at h
  · apply un_all h; clear h; intro a0 a1 a2 a3 a4 a5 a6 a7 h; apply un_all h; clear h; intro a8 a9 a10 a11 a12 a13 a14 a15 a16 a17 a18 a19 a20 a21 a22 a23 h; exact Eq.mpr (by kernel_rfl) h
  · exact h.elim

def impl_World_isHeadSaid : GM
 | [.agg u0, .agg u1], k => un 8 (fun a0 a1 a2 a3 a4 a5 a6 a7 => un 16 (fun a8 a9 a10 a11 a12 a13 a14 a15 a16 a17 a18 a19 a20 a21 a22 a23 => 
  call impl_World_someSaid_F_impl_World_isHeadSaid_1 [.agg [a0, a1, a2, a3, a4, a5, a6, a7], .fn 288 [.cells [a8, a9, a10, a11, a12, a13, a14, a15, a16, a17, a18, a19, a20, a21, a22, a23]]] fun o0 =>
  rt [.sc] [(atP o0 0)] k) u1) u0
 | _, _ => False
abbrev impl_World_isHeadSaid_e : Ent := ⟨[215], impl_World_isHeadSaid⟩
theorem impl_World_isHeadSaid_w : EntOK Tryz.prog TT impl_World_isHeadSaid_e := ent_ok tabok (L := [impl_World_someSaid_F_impl_World_isHeadSaid_1_e]) ⟨impl_World_someSaid_F_impl_World_isHeadSaid_1_w, trivial⟩ (keep := []) (l := []) Tryz.func215 (by kernel_rfl) (sg := [.one (.sc)]) (by kernel_rfl) trivial fun av k h => by
  unfold impl_World_isHeadSaid at h; split at h
  · apply un_all h; clear h; intro a0 a1 a2 a3 a4 a5 a6 a7 h; apply un_all h; clear h; intro a8 a9 a10 a11 a12 a13 a14 a15 a16 a17 a18 a19 a20 a21 a22 a23 h; exact Eq.mpr (by kernel_rfl) h
  · exact h.elim

def impl_World_isForkSaid : GM
 | [.agg u0, .agg u1], k => un 8 (fun a0 a1 a2 a3 a4 a5 a6 a7 => un 51 (fun a8 a9 a10 a11 a12 a13 a14 a15 a16 a17 a18 a19 a20 a21 a22 a23 a24 a25 a26 a27 a28 a29 a30 a31 a32 a33 a34 a35 a36 a37 a38 a39 a40 a41 a42 a43 a44 a45 a46 a47 a48 a49 a50 a51 a52 a53 a54 a55 a56 a57 a58 => 
  call impl_EqualSigned [.agg [a8, a9, a10, a11, a12, a13, a14, a15, a16, a17, a18, a19, a20, a21, a22, a23, a24], .agg [(I 0), (I 0), (I 0), (I 0), (I 0), (I 0), (I 0), (I 0), (.list 1 []), (I 0), (.list 1 []), (I 0), (I 0), (.list 1 []), (I 0), (.bool false), (.list 2 [])]] fun o0 =>
  iteP (atP o0 0)
   (call impl_World_isHeadSaid [.agg [a0, a1, a2, a3, a4, a5, a6, a7], .agg [a25, a26, a27, a28, a29, a30, a31, a32, a33, a34, a35, a36, a37, a38, a39, a40]] fun o1 =>
   iteP (atP o1 0)
    (call impl_World_isHeadSaid [.agg [a0, a1, a2, a3, a4, a5, a6, a7], .agg [a42, a43, a44, a45, a46, a47, a48, a49, a50, a51, a52, a53, a54, a55, a56, a57]] fun o2 =>
    rt [.sc] [(atP o2 0)] k)
    (rt [.sc] [(.bool false)] k))
   (call impl_World_isHeadSaid [.agg [a0, a1, a2, a3, a4, a5, a6, a7], .agg [a8, a9, a10, a11, a12, a13, a14, a15, a16, a17, a18, a19, a20, a21, a22, a23]] fun o3 =>
   iteP (atP o3 0)
    (call impl_World_isHeadSaid [.agg [a0, a1, a2, a3, a4, a5, a6, a7], .agg [a25, a26, a27, a28, a29, a30, a31, a32, a33, a34, a35, a36, a37, a38, a39, a40]] fun o4 =>
    iteP (atP o4 0)
     (call impl_World_isHeadSaid [.agg [a0, a1, a2, a3, a4, a5, a6, a7], .agg [a42, a43, a44, a45, a46, a47, a48, a49, a50, a51, a52, a53, a54, a55, a56, a57]] fun o5 =>
     rt [.sc] [(atP o5 0)] k)
     (rt [.sc] [(.bool false)] k))
    (rt [.sc] [(.bool false)] k))) u1) u0
 | _, _ => False
abbrev impl_World_isForkSaid_e : Ent := ⟨[122], impl_World_isForkSaid⟩
theorem impl_World_isForkSaid_w : EntOK Tryz.prog TT impl_World_isForkSaid_e := ent_ok tabok (L := [impl_EqualSigned_e, impl_World_isHeadSaid_e]) ⟨impl_EqualSigned_w, impl_World_isHeadSaid_w, trivial⟩ (keep := []) (l := []) Tryz.func122 (by kernel_rfl) (sg := [.one (.sc)]) (by kernel_rfl) trivial fun av k h => by
  unfold impl_World_isForkSaid at h; split at h
  · apply un_all h; clear h; intro a0 a1 a2 a3 a4 a5 a6 a7 h; apply un_all h; clear h; intro a8 a9 a10 a11 a12 a13 a14 a15 a16 a17 a18 a19 a20 a21 a22 a23 a24 a25 a26 a27 a28 a29 a30 a31 a32 a33 a34 a35 a36 a37 a38 a39 a40 a41 a42 a43 a44 a45 a46 a47 a48 a49 a50 a51 a52 a53 a54 a55 a56 a57 a58 h; exact Eq.mpr (by kernel_rfl) h
  · exact h.elim

def impl_UserSaid_1 : GM
 | [.agg u0, .ro (.cells u1)], k => un 51 (fun a0 a1 a2 a3 a4 a5 a6 a7 a8 a9 a10 a11 a12 a13 a14 a15 a16 a17 a18 a19 a20 a21 a22 a23 a24 a25 a26 a27 a28 a29 a30 a31 a32 a33 a34 a35 a36 a37 a38 a39 a40 a41 a42 a43 a44 a45 a46 a47 a48 a49 a50 => un 8 (fun a51 a52 a53 a54 a55 a56 a57 a58 => 
  call impl_World_isForkSaid [.agg [a51, a52, a53, a54, a55, a56, a57, a58], .agg [a0, a1, a2, a3, a4, a5, a6, a7, a8, a9, a10, a11, a12, a13, a14, a15, a16, a17, a18, a19, a20, a21, a22, a23, a24, a25, a26, a27, a28, a29, a30, a31, a32, a33, a34, a35, a36, a37, a38, a39, a40, a41, a42, a43, a44, a45, a46, a47, a48, a49, a50]] fun o0 =>
  unP .not (atP o0 0) fun r1 =>
  rt [.sc] [r1] k) u1) u0
 | _, _ => False
abbrev impl_UserSaid_1_e : Ent := ⟨[121], impl_UserSaid_1⟩
theorem impl_UserSaid_1_w : EntOK Tryz.prog TT impl_UserSaid_1_e := ent_ok tabok (L := [impl_World_isForkSaid_e]) ⟨impl_World_isForkSaid_w, trivial⟩ (keep := []) (l := []) Tryz.func121 (by kernel_rfl) (sg := [.one (.sc)]) (by kernel_rfl) trivial fun av k h => by
  unfold impl_UserSaid_1 at h; split at h
  · apply un_all h; clear h; intro a0 a1 a2 a3 a4 a5 a6 a7 a8 a9 a10 a11 a12 a13 a14 a15 a16 a17 a18 a19 a20 a21 a22 a23 a24 a25 a26 a27 a28 a29 a30 a31 a32 a33 a34 a35 a36 a37 a38 a39 a40 a41 a42 a43 a44 a45 a46 a47 a48 a49 a50 h; apply un_all h; clear h; intro a51 a52 a53 a54 a55 a56 a57 a58 h; exact Eq.mpr (by kernel_rfl) h
  · exact h.elim

def slices_IndexFunc_Fork_F_impl_UserSaid_1_r0 (v : List PV) (K : List PV → Prop) (x0k : PV → Prop) (x1k : PV → PV → PV → PV → PV → PV → PV → PV → PV → PV → PV → PV → Prop) : Prop :=
 un 12 (fun v0 v1 v2 v3 v4 v5 v6 v7 v8 v9 v10 v11 =>
  binP .lss v11 v10 fun r0 =>
  iteP r0
   (elemP 51 v0 v11 fun c1 =>
   call impl_UserSaid_1 [.agg [(atP c1 0), (atP c1 1), (atP c1 2), (atP c1 3), (atP c1 4), (atP c1 5), (atP c1 6), (atP c1 7), (atP c1 8), (atP c1 9), (atP c1 10), (atP c1 11), (atP c1 12), (atP c1 13), (atP c1 14), (atP c1 15), (atP c1 16), (atP c1 17), (atP c1 18), (atP c1 19), (atP c1 20), (atP c1 21), (atP c1 22), (atP c1 23), (atP c1 24), (atP c1 25), (atP c1 26), (atP c1 27), (atP c1 28), (atP c1 29), (atP c1 30), (atP c1 31), (atP c1 32), (atP c1 33), (atP c1 34), (atP c1 35), (atP c1 36), (atP c1 37), (atP c1 38), (atP c1 39), (atP c1 40), (atP c1 41), (atP c1 42), (atP c1 43), (atP c1 44), (atP c1 45), (atP c1 46), (atP c1 47), (atP c1 48), (atP c1 49), (atP c1 50)], .ro (.cells [v1, v2, v3, v4, v5, v6, v7, v8])] fun o2 =>
   iteP (atP o2 0)
    (x0k v11)
    (binP .add v11 (I 1) fun r3 =>
    K [v0, v1, v2, v3, v4, v5, v6, v7, v8, v9, v10, r3]))
   (x1k v0 v1 v2 v3 v4 v5 v6 v7 v8 v9 v10 v11)) v
def slices_IndexFunc_Fork_F_impl_UserSaid_1 : GM
 | [.one a0, .fn 121 [.cells u0]], k => un 8 (fun a1 a2 a3 a4 a5 a6 a7 a8 => 
  lenP a0 fun r0 =>
  lp (fun L w => slices_IndexFunc_Fork_F_impl_UserSaid_1_r0 w L
   (fun q4 => rt [.sc] [q4] k)
   (fun q5 q6 q7 q8 q9 q10 q11 q12 q13 q14 q15 q16 => rt [.sc] [(I (-1))] k)) [a0, a1, a2, a3, a4, a5, a6, a7, a8, (I 0), r0, (I 0)]) u0
 | _, _ => False
abbrev slices_IndexFunc_Fork_F_impl_UserSaid_1_e : Ent := ⟨[213, 121], slices_IndexFunc_Fork_F_impl_UserSaid_1⟩
def slices_IndexFunc_Fork_F_impl_UserSaid_1_l : List LE := [⟨0, ⟨[(0, .one (.pv (.bool false))), (1, .one (.fn 121 [.ro (.cells [(.bool false), (.bool false), (.bool false), (.bool false), (.bool false), (.bool false), (.bool false), (.bool false)])])), (4, .one (.pv (.bool false))), (7, .one (.pv (.bool false))), (8, .one (.pv (.bool false)))], [], [], 0, 19⟩, fun K k v => slices_IndexFunc_Fork_F_impl_UserSaid_1_r0 v K (fun x0 => k .ret ⟨[(4, .one (.pv x0))], [], [], 1, 19⟩) (fun x0 x1 x2 x3 x4 x5 x6 x7 x8 x9 x10 x11 => k (.exit 0) ⟨[(0, .one (.pv x0)), (1, .one (.fn 121 [.ro (.cells [x1, x2, x3, x4, x5, x6, x7, x8])])), (4, .one (.pv x9)), (7, .one (.pv x10)), (8, .one (.pv x11))], [], [], 0, 19⟩)⟩]
theorem slices_IndexFunc_Fork_F_impl_UserSaid_1_s : LEsOK (orac [impl_UserSaid_1_e]) TT (kk [0, 1, 4, 7, 8]) (sumsOf slices_IndexFunc_Fork_F_impl_UserSaid_1_l) Tryz.f213 slices_IndexFunc_Fork_F_impl_UserSaid_1_l := ⟨fun v K k h => by
  apply un_all h; exact fun v0 v1 v2 v3 v4 v5 v6 v7 v8 v9 v10 v11 h => Eq.mpr (by kernel_rfl) h
  , trivial⟩
theorem slices_IndexFunc_Fork_F_impl_UserSaid_1_w : EntOK Tryz.prog TT slices_IndexFunc_Fork_F_impl_UserSaid_1_e := ent_ok tabok (L := [impl_UserSaid_1_e]) ⟨impl_UserSaid_1_w, trivial⟩ (keep := (kk [0, 1, 4, 7, 8])) (l := slices_IndexFunc_Fork_F_impl_UserSaid_1_l) Tryz.func213 (by kernel_rfl) (sg := [.one (.sc)]) (by kernel_rfl) slices_IndexFunc_Fork_F_impl_UserSaid_1_s fun av k h => by
  unfold slices_IndexFunc_Fork_F_impl_UserSaid_1 at h; split at h
  · apply un_all h; clear h; intro a1 a2 a3 a4 a5 a6 a7 a8 h; exact Eq.mpr (by kernel_rfl) h
  · exact h.elim

def slices_ContainsFunc_Fork_F_impl_UserSaid_1 : GM
 | [.one a0, .fn 121 [.cells u0]], k => un 8 (fun a1 a2 a3 a4 a5 a6 a7 a8 => 
  call slices_IndexFunc_Fork_F_impl_UserSaid_1 [.one a0, .fn 121 [.cells [a1, a2, a3, a4, a5, a6, a7, a8]]] fun o0 =>
  binP .geq (atP o0 0) (I 0) fun r1 =>
  rt [.sc] [r1] k) u0
 | _, _ => False
abbrev slices_ContainsFunc_Fork_F_impl_UserSaid_1_e : Ent := ⟨[120, 121], slices_ContainsFunc_Fork_F_impl_UserSaid_1⟩
theorem slices_ContainsFunc_Fork_F_impl_UserSaid_1_w : EntOK Tryz.prog TT slices_ContainsFunc_Fork_F_impl_UserSaid_1_e := ent_ok tabok (L := [slices_IndexFunc_Fork_F_impl_UserSaid_1_e]) ⟨slices_IndexFunc_Fork_F_impl_UserSaid_1_w, trivial⟩ (keep := []) (l := []) Tryz.func120 (by kernel_rfl) (sg := [.one (.sc)]) (by kernel_rfl) trivial fun av k h => by
  unfold slices_ContainsFunc_Fork_F_impl_UserSaid_1 at h; split at h
  · apply un_all h; clear h; intro a1 a2 a3 a4 a5 a6 a7 a8 h; exact Eq.mpr (by kernel_rfl) h
  · exact h.elim

def impl_UserSaid_r0 (v : List PV) (K : List PV → Prop) (x0k : PV → PV → PV → PV → PV → PV → PV → PV → Prop) (x1k : PV → PV → PV → PV → PV → PV → PV → PV → PV → PV → PV → PV → Prop) : Prop :=
 un 12 (fun v0 v1 v2 v3 v4 v5 v6 v7 v8 v9 v10 v11 =>
  binP .lss v3 v2 fun r0 =>
  iteP r0
   (elemP 1 v1 v3 fun c1 =>
   call impl_IsGrounded [.agg [v4, v5, v6, v7, v8, v9, v10, v11], .one (atP c1 0)] fun o2 =>
   unP .not (atP o2 0) fun r3 =>
   iteP r3
    (x0k v4 v5 v6 v7 v8 v9 v10 v11)
    (binP .add v3 (I 1) fun r4 =>
    K [v0, v1, v2, r4, v4, v5, v6, v7, v8, v9, v10, v11]))
   (x1k v0 v1 v2 v3 v4 v5 v6 v7 v8 v9 v10 v11)) v
def impl_UserSaid_r1 (v : List PV) (K : List PV → Prop) (x0k : PV → PV → PV → PV → PV → PV → PV → PV → PV → PV → PV → PV → PV → PV → PV → PV → PV → PV → PV → PV → PV → PV → PV → PV → PV → PV → PV → PV → PV → PV → PV → Prop) (x1k : PV → PV → PV → PV → PV → PV → PV → PV → PV → PV → PV → PV → PV → PV → PV → Prop) : Prop :=
 un 15 (fun v0 v1 v2 v3 v4 v5 v6 v7 v8 v9 v10 v11 v12 v13 v14 =>
  binP .lss v6 v5 fun r0 =>
  iteP r0
   (elemP 23 v4 v6 fun c1 =>
   call impl_IsGrounded [.agg [v7, v8, v9, v10, v11, v12, v13, v14], .one (atP c1 2)] fun o2 =>
   unP .not (atP o2 0) fun r3 =>
   iteP r3
    (x0k (atP c1 0) (atP c1 1) (atP c1 2) (atP c1 3) (atP c1 4) (atP c1 5) (atP c1 6) (atP c1 7) (atP c1 8) (atP c1 9) (atP c1 10) (atP c1 11) (atP c1 12) (atP c1 13) (atP c1 14) (atP c1 15) (atP c1 16) (atP c1 17) (atP c1 18) (atP c1 19) (atP c1 20) (atP c1 21) (atP c1 22) v7 v8 v9 v10 v11 v12 v13 v14)
    (binP .add v6 (I 1) fun r4 =>
    K [v0, v1, v2, v3, v4, v5, r4, v7, v8, v9, v10, v11, v12, v13, v14]))
   (x1k v0 v1 v2 v3 v4 v5 v6 v7 v8 v9 v10 v11 v12 v13 v14)) v
def impl_UserSaid : GM
 | [.agg u0], k => un 8 (fun a0 a1 a2 a3 a4 a5 a6 a7 => 
  lenP a5 fun r0 =>
  lp (fun L w => impl_UserSaid_r0 w L
   (fun q5 q6 q7 q8 q9 q10 q11 q12 => rt [.sc] [(.bool false)] k)
   (fun q13 q14 q15 q16 q17 q18 q19 q20 q21 q22 q23 q24 => lenP q24 fun r25 =>
    lp (fun L w => impl_UserSaid_r1 w L
     (fun q26 q27 q28 q29 q30 q31 q32 q33 q34 q35 q36 q37 q38 q39 q40 q41 q42 q43 q44 q45 q46 q47 q48 q49 q50 q51 q52 q53 q54 q55 q56 => rt [.sc] [(.bool false)] k)
     (fun q57 q58 q59 q60 q61 q62 q63 q64 q65 q66 q67 q68 q69 q70 q71 => call slices_ContainsFunc_Fork_F_impl_UserSaid_1 [.one q70, .fn 121 [.cells [q64, q65, q66, q67, q68, q69, q70, q71]]] fun o72 =>
      unP .not (atP o72 0) fun r73 =>
      rt [.sc] [r73] k)) [q13, q14, q15, q16, q24, r25, (I 0), q17, q18, q19, q20, q21, q22, q23, q24])) [(.bool false), a5, r0, (I 0), a0, a1, a2, a3, a4, a5, a6, a7]) u0
 | _, _ => False
abbrev impl_UserSaid_e : Ent := ⟨[43], impl_UserSaid⟩
def impl_UserSaid_l : List LE := [⟨0, ⟨[(1, .one (.ptr 0 0)), (2, .one (.pv (.bool false))), (9, .one (.pv (.bool false))), (10, .one (.pv (.bool false))), (11, .one (.pv (.bool false)))], [(0, [.pv (.bool false), .pv (.bool false), .pv (.bool false), .pv (.bool false), .pv (.bool false), .pv (.bool false), .pv (.bool false), .pv (.bool false)])], [], 1, 41⟩, fun K k v => impl_UserSaid_r0 v K (fun x0 x1 x2 x3 x4 x5 x6 x7 => k .ret ⟨[(2, .one (.kb false))], [(0, [.pv x0, .pv x1, .pv x2, .pv x3, .pv x4, .pv x5, .pv x6, .pv x7])], [], 2, 41⟩) (fun x0 x1 x2 x3 x4 x5 x6 x7 x8 x9 x10 x11 => k (.exit 0) ⟨[(1, .one (.ptr 0 0)), (2, .one (.pv x0)), (9, .one (.pv x1)), (10, .one (.pv x2)), (11, .one (.pv x3))], [(0, [.pv x4, .pv x5, .pv x6, .pv x7, .pv x8, .pv x9, .pv x10, .pv x11])], [], 1, 41⟩)⟩,
  ⟨1, ⟨[(1, .one (.ptr 0 0)), (2, .one (.pv (.bool false))), (9, .one (.pv (.bool false))), (10, .one (.pv (.bool false))), (11, .one (.pv (.bool false))), (22, .one (.pv (.bool false))), (23, .one (.pv (.bool false))), (24, .one (.pv (.bool false)))], [(0, [.pv (.bool false), .pv (.bool false), .pv (.bool false), .pv (.bool false), .pv (.bool false), .pv (.bool false), .pv (.bool false), .pv (.bool false)])], [], 1, 41⟩, fun K k v => impl_UserSaid_r1 v K (fun x0 x1 x2 x3 x4 x5 x6 x7 x8 x9 x10 x11 x12 x13 x14 x15 x16 x17 x18 x19 x20 x21 x22 x23 x24 x25 x26 x27 x28 x29 x30 => k .ret ⟨[(2, .one (.kb false))], [(1, [.pv x0, .pv x1, .pv x2, .pv x3, .pv x4, .pv x5, .pv x6, .pv x7, .pv x8, .pv x9, .pv x10, .pv x11, .pv x12, .pv x13, .pv x14, .pv x15, .pv x16, .pv x17, .pv x18, .pv x19, .pv x20, .pv x21, .pv x22]), (1, [.pv (I 0), .pv (.str ⟨#[]⟩), .nil 155 17, .pv (.bool false), .pv (.str ⟨#[]⟩), .pv (I 0), .pv (I 0), .nil 9 1, .pv (I 0), .nil 3 1, .pv (I 0), .pv (.str ⟨#[]⟩), .pv (I 0), .pv (I 0), .nil 9 1, .pv (.str ⟨#[]⟩), .pv (I 0), .pv (I 0), .nil 9 1, .pv (I 0), .nil 3 1, .pv (I 0), .nil 3 1]), (0, [.pv x23, .pv x24, .pv x25, .pv x26, .pv x27, .pv x28, .pv x29, .pv x30])], [], 3, 41⟩) (fun x0 x1 x2 x3 x4 x5 x6 x7 x8 x9 x10 x11 x12 x13 x14 => k (.exit 2) ⟨[(1, .one (.ptr 0 0)), (2, .one (.pv x0)), (9, .one (.pv x1)), (10, .one (.pv x2)), (11, .one (.pv x3)), (22, .one (.pv x4)), (23, .one (.pv x5)), (24, .one (.pv x6))], [(0, [.pv x7, .pv x8, .pv x9, .pv x10, .pv x11, .pv x12, .pv x13, .pv x14])], [], 1, 41⟩)⟩]
theorem impl_UserSaid_s : LEsOK (orac [impl_IsGrounded_e, slices_ContainsFunc_Fork_F_impl_UserSaid_1_e]) TT (kk [1, 2, 9, 10, 11, 22, 23, 24]) (sumsOf impl_UserSaid_l) Tryz.f43 impl_UserSaid_l := ⟨fun v K k h => by
  apply un_all h; exact fun v0 v1 v2 v3 v4 v5 v6 v7 v8 v9 v10 v11 h => Eq.mpr (by kernel_rfl) h
  , fun v K k h => by
  apply un_all h; exact fun v0 v1 v2 v3 v4 v5 v6 v7 v8 v9 v10 v11 v12 v13 v14 h => Eq.mpr (by kernel_rfl) h
  , trivial⟩
theorem impl_UserSaid_w : EntOK Tryz.prog TT impl_UserSaid_e := ent_ok tabok (L := [impl_IsGrounded_e, slices_ContainsFunc_Fork_F_impl_UserSaid_1_e]) ⟨impl_IsGrounded_w, slices_ContainsFunc_Fork_F_impl_UserSaid_1_w, trivial⟩ (keep := (kk [1, 2, 9, 10, 11, 22, 23, 24])) (l := impl_UserSaid_l) Tryz.func43 (by kernel_rfl) (sg := [.one (.sc)]) (by kernel_rfl) impl_UserSaid_s fun av k h => by
  unfold impl_UserSaid at h; split at h
  · apply un_all h; clear h; intro a0 a1 a2 a3 a4 a5 a6 a7 h; exact Eq.mpr (by kernel_rfl) h
  · exact h.elim

def laws_FnExactUserSaid : GM
 | [.agg u0], k => un 8 (fun a0 a1 a2 a3 a4 a5 a6 a7 => 
  call laws_szWorld [.agg [a0, a1, a2, a3, a4, a5, a6, a7], .one (I 1048576)] fun o0 =>
  binP .lss (atP o0 0) (I 0) fun r1 =>
  iteP r1
   (rt [.sc] [(.bool true)] k)
   (call laws_toWorld [.agg [a0, a1, a2, a3, a4, a5, a6, a7]] fun o2 =>
   call spec_UserSaid [.agg [(atP o2 0), (atP o2 1), (atP o2 2), (atP o2 3), (atP o2 4), (atP o2 5), (atP o2 6), (atP o2 7)]] fun o3 =>
   call laws_toWorld [.agg [a0, a1, a2, a3, a4, a5, a6, a7]] fun o4 =>
   call impl_UserSaid [.agg [(atP o4 0), (atP o4 1), (atP o4 2), (atP o4 3), (atP o4 4), (atP o4 5), (atP o4 6), (atP o4 7)]] fun o5 =>
   boolP .neq (atP o5 0) (atP o3 0) fun r6 =>
   iteP r6
    (rt [.sc] [(.bool false)] k)
    (call laws_toWorld [.agg [a0, a1, a2, a3, a4, a5, a6, a7]] fun o7 =>
    call laws_eqWorld [.agg [(atP o4 0), (atP o4 1), (atP o4 2), (atP o4 3), (atP o4 4), (atP o4 5), (atP o4 6), (atP o4 7)], .agg [(atP o7 0), (atP o7 1), (atP o7 2), (atP o7 3), (atP o7 4), (atP o7 5), (atP o7 6), (atP o7 7)]] fun o8 =>
    unP .not (atP o8 0) fun r9 =>
    iteP r9
     (rt [.sc] [(.bool false)] k)
     (rt [.sc] [(.bool true)] k)))) u0
 | _, _ => False
abbrev laws_FnExactUserSaid_e : Ent := ⟨[9], laws_FnExactUserSaid⟩
theorem laws_FnExactUserSaid_w : EntOK Tryz.prog TT laws_FnExactUserSaid_e := ent_ok tabok (L := [laws_szWorld_e, laws_toWorld_e, spec_UserSaid_e, impl_UserSaid_e, laws_eqWorld_e]) ⟨laws_szWorld_w, laws_toWorld_w, spec_UserSaid_w, impl_UserSaid_w, laws_eqWorld_w, trivial⟩ (keep := []) (l := []) Tryz.func9 (by kernel_rfl) (sg := [.one (.sc)]) (by kernel_rfl) trivial fun av k h => by
  unfold laws_FnExactUserSaid at h; split at h
  · apply un_all h; clear h; intro a0 a1 a2 a3 a4 a5 a6 a7 h; exact Eq.mpr (by kernel_rfl) h
  · exact h.elim

def spec_EqualActors_r0 (v : List PV) (K : List PV → Prop) (x0k : Prop) (x1k : PV → PV → PV → PV → Prop) : Prop :=
 un 4 (fun v0 v1 v2 v3 =>
  lenP v0 fun r0 =>
  binP .lss v3 r0 fun r1 =>
  iteP r1
   (elemP 1 v0 v3 fun c2 =>
   elemP 1 v1 v3 fun c3 =>
   call spec_EqualInts [.one (atP c2 0), .one (atP c3 0)] fun o4 =>
   unP .not (atP o4 0) fun r5 =>
   iteP r5
    (x0k)
    (binP .add v3 (I 1) fun r6 =>
    K [v0, v1, v2, r6]))
   (x1k v0 v1 v2 v3)) v
def spec_EqualActors : GM
 | [.one a0, .one a1], k => 
  lenP a0 fun r0 =>
  lenP a1 fun r1 =>
  binP .neq r0 r1 fun r2 =>
  iteP r2
   (rt [.sc] [(.bool false)] k)
   (lp (fun L w => spec_EqualActors_r0 w L
    (rt [.sc] [(.bool false)] k)
    (fun q7 q8 q9 q10 => rt [.sc] [(.bool true)] k)) [a0, a1, (.bool false), (I 0)])
 | _, _ => False
abbrev spec_EqualActors_e : Ent := ⟨[123], spec_EqualActors⟩
def spec_EqualActors_l : List LE := [⟨0, ⟨[(0, .one (.pv (.bool false))), (1, .one (.pv (.bool false))), (4, .one (.pv (.bool false))), (5, .one (.pv (.bool false)))], [], [], 0, 29⟩, fun K k v => spec_EqualActors_r0 v K (k .ret ⟨[(4, .one (.kb false))], [], [], 1, 29⟩) (fun x0 x1 x2 x3 => k (.exit 0) ⟨[(0, .one (.pv x0)), (1, .one (.pv x1)), (4, .one (.pv x2)), (5, .one (.pv x3))], [], [], 0, 29⟩)⟩]
theorem spec_EqualActors_s : LEsOK (orac [spec_EqualInts_e]) TT (kk [0, 1, 4, 5]) (sumsOf spec_EqualActors_l) Tryz.f123 spec_EqualActors_l := ⟨fun v K k h => by
  apply un_all h; exact fun v0 v1 v2 v3 h => Eq.mpr (by kernel_rfl) h
  , trivial⟩
theorem spec_EqualActors_w : EntOK Tryz.prog TT spec_EqualActors_e := ent_ok tabok (L := [spec_EqualInts_e]) ⟨spec_EqualInts_w, trivial⟩ (keep := (kk [0, 1, 4, 5])) (l := spec_EqualActors_l) Tryz.func123 (by kernel_rfl) (sg := [.one (.sc)]) (by kernel_rfl) spec_EqualActors_s fun av k h => by
  unfold spec_EqualActors at h; split at h
  · exact Eq.mpr (by kernel_rfl) h
  · exact h.elim

def spec_EqualZones_r0 (v : List PV) (K : List PV → Prop) (x0k : PV → PV → PV → PV → Prop) (x1k : PV → PV → PV → PV → PV → PV → Prop) : Prop :=
 un 6 (fun v0 v1 v2 v3 v4 v5 =>
  lenP v4 fun r0 =>
  binP .lss v1 r0 fun r1 =>
  iteP r1
   (elemP 17 v4 v1 fun c2 =>
   elemP 17 v2 v1 fun c3 =>
   call spec_EqualSigned [.agg [(atP c2 0), (atP c2 1), (atP c2 2), (atP c2 3), (atP c2 4), (atP c2 5), (atP c2 6), (atP c2 7), (atP c2 8), (atP c2 9), (atP c2 10), (atP c2 11), (atP c2 12), (atP c2 13), (atP c2 14), (atP c2 15), (atP c2 16)], .agg [(atP c3 0), (atP c3 1), (atP c3 2), (atP c3 3), (atP c3 4), (atP c3 5), (atP c3 6), (atP c3 7), (atP c3 8), (atP c3 9), (atP c3 10), (atP c3 11), (atP c3 12), (atP c3 13), (atP c3 14), (atP c3 15), (atP c3 16)]] fun o4 =>
   unP .not (atP o4 0) fun r5 =>
   iteP r5
    (x0k v2 v3 v4 v5)
    (binP .add v1 (I 1) fun r6 =>
    K [v0, r6, v2, v3, v4, v5]))
   (x1k v0 v1 v2 v3 v4 v5)) v
def spec_EqualZones : GM
 | [.agg u0, .agg u1], k => un 2 (fun a0 a1 => un 2 (fun a2 a3 => 
  lenP a0 fun r0 =>
  lenP a2 fun r1 =>
  binP .neq r0 r1 fun r2 =>
  iteP r2
   (rt [.sc] [(.bool false)] k)
   (call spec_SameEntries [.one a1, .one a3] fun o3 =>
   unP .not (atP o3 0) fun r4 =>
   iteP r4
    (rt [.sc] [(.bool false)] k)
    (lp (fun L w => spec_EqualZones_r0 w L
     (fun q7 q8 q9 q10 => rt [.sc] [(.bool false)] k)
     (fun q11 q12 q13 q14 q15 q16 => rt [.sc] [(.bool true)] k)) [(.bool false), (I 0), a2, a3, a0, a1]))) u1) u0
 | _, _ => False
abbrev spec_EqualZones_e : Ent := ⟨[124], spec_EqualZones⟩
def spec_EqualZones_l : List LE := [⟨0, ⟨[(2, .one (.ptr 0 0)), (3, .one (.ptr 1 0)), (4, .one (.pv (.bool false))), (5, .one (.pv (.bool false)))], [(1, [.pv (.bool false), .pv (.bool false)]), (0, [.pv (.bool false), .pv (.bool false)])], [], 3, 40⟩, fun K k v => spec_EqualZones_r0 v K (fun x0 x1 x2 x3 => k .ret ⟨[(4, .one (.kb false))], [(1, [.pv x0, .pv x1]), (0, [.pv x2, .pv x3])], [], 4, 40⟩) (fun x0 x1 x2 x3 x4 x5 => k (.exit 0) ⟨[(2, .one (.ptr 0 0)), (3, .one (.ptr 1 0)), (4, .one (.pv x0)), (5, .one (.pv x1))], [(1, [.pv x2, .pv x3]), (0, [.pv x4, .pv x5])], [], 3, 40⟩)⟩]
theorem spec_EqualZones_s : LEsOK (orac [spec_SameEntries_e, spec_EqualSigned_e]) TT (kk [2, 3, 4, 5]) (sumsOf spec_EqualZones_l) Tryz.f124 spec_EqualZones_l := ⟨fun v K k h => by
  apply un_all h; exact fun v0 v1 v2 v3 v4 v5 h => Eq.mpr (by kernel_rfl) h
  , trivial⟩
theorem spec_EqualZones_w : EntOK Tryz.prog TT spec_EqualZones_e := ent_ok tabok (L := [spec_SameEntries_e, spec_EqualSigned_e]) ⟨spec_SameEntries_w, spec_EqualSigned_w, trivial⟩ (keep := (kk [2, 3, 4, 5])) (l := spec_EqualZones_l) Tryz.func124 (by kernel_rfl) (sg := [.one (.sc)]) (by kernel_rfl) spec_EqualZones_s fun av k h => by
  unfold spec_EqualZones at h; split at h
  · apply un_all h; clear h; intro a0 a1 h; apply un_all h; clear h; intro a2 a3 h; exact Eq.mpr (by kernel_rfl) h
  · exact h.elim

def spec_EqualServers_r0 (v : List PV) (K : List PV → Prop) (x0k : PV → PV → PV → PV → Prop) (x1k : PV → PV → PV → PV → PV → PV → Prop) : Prop :=
 un 6 (fun v0 v1 v2 v3 v4 v5 =>
  lenP v4 fun r0 =>
  binP .lss v1 r0 fun r1 =>
  iteP r1
   (elemP 2 v4 v1 fun c2 =>
   elemP 2 v2 v1 fun c3 =>
   call spec_EqualZones [.agg [(atP c2 0), (atP c2 1)], .agg [(atP c3 0), (atP c3 1)]] fun o4 =>
   unP .not (atP o4 0) fun r5 =>
   iteP r5
    (x0k v2 v3 v4 v5)
    (binP .add v1 (I 1) fun r6 =>
    K [v0, r6, v2, v3, v4, v5]))
   (x1k v0 v1 v2 v3 v4 v5)) v
def spec_EqualServers : GM
 | [.agg u0, .agg u1], k => un 2 (fun a0 a1 => un 2 (fun a2 a3 => 
  binP .neq a1 a3 fun r0 =>
  iteP r0
   (rt [.sc] [(.bool false)] k)
   (lenP a0 fun r1 =>
   lenP a2 fun r2 =>
   binP .neq r1 r2 fun r3 =>
   iteP r3
    (rt [.sc] [(.bool false)] k)
    (lp (fun L w => spec_EqualServers_r0 w L
     (fun q7 q8 q9 q10 => rt [.sc] [(.bool false)] k)
     (fun q11 q12 q13 q14 q15 q16 => rt [.sc] [(.bool true)] k)) [(.bool false), (I 0), a2, a3, a0, a1]))) u1) u0
 | _, _ => False
abbrev spec_EqualServers_e : Ent := ⟨[126], spec_EqualServers⟩
def spec_EqualServers_l : List LE := [⟨0, ⟨[(2, .one (.ptr 0 0)), (3, .one (.ptr 1 0)), (4, .one (.pv (.bool false))), (5, .one (.pv (.bool false)))], [(1, [.pv (.bool false), .pv (.bool false)]), (0, [.pv (.bool false), .pv (.bool false)])], [], 2, 39⟩, fun K k v => spec_EqualServers_r0 v K (fun x0 x1 x2 x3 => k .ret ⟨[(4, .one (.kb false))], [(1, [.pv x0, .pv x1]), (0, [.pv x2, .pv x3])], [], 3, 39⟩) (fun x0 x1 x2 x3 x4 x5 => k (.exit 0) ⟨[(2, .one (.ptr 0 0)), (3, .one (.ptr 1 0)), (4, .one (.pv x0)), (5, .one (.pv x1))], [(1, [.pv x2, .pv x3]), (0, [.pv x4, .pv x5])], [], 2, 39⟩)⟩]
theorem spec_EqualServers_s : LEsOK (orac [spec_EqualZones_e]) TT (kk [2, 3, 4, 5]) (sumsOf spec_EqualServers_l) Tryz.f126 spec_EqualServers_l := ⟨fun v K k h => by
  apply un_all h; exact fun v0 v1 v2 v3 v4 v5 h => Eq.mpr (by kernel_rfl) h
  , trivial⟩
theorem spec_EqualServers_w : EntOK Tryz.prog TT spec_EqualServers_e := ent_ok tabok (L := [spec_EqualZones_e]) ⟨spec_EqualZones_w, trivial⟩ (keep := (kk [2, 3, 4, 5])) (l := spec_EqualServers_l) Tryz.func126 (by kernel_rfl) (sg := [.one (.sc)]) (by kernel_rfl) spec_EqualServers_s fun av k h => by
  unfold spec_EqualServers at h; split at h
  · apply un_all h; clear h; intro a0 a1 h; apply un_all h; clear h; intro a2 a3 h; exact Eq.mpr (by kernel_rfl) h
  · exact h.elim

def spec_EqualForks : GM
 | [.agg u0, .agg u1], k => un 51 (fun a0 a1 a2 a3 a4 a5 a6 a7 a8 a9 a10 a11 a12 a13 a14 a15 a16 a17 a18 a19 a20 a21 a22 a23 a24 a25 a26 a27 a28 a29 a30 a31 a32 a33 a34 a35 a36 a37 a38 a39 a40 a41 a42 a43 a44 a45 a46 a47 a48 a49 a50 => un 51 (fun a51 a52 a53 a54 a55 a56 a57 a58 a59 a60 a61 a62 a63 a64 a65 a66 a67 a68 a69 a70 a71 a72 a73 a74 a75 a76 a77 a78 a79 a80 a81 a82 a83 a84 a85 a86 a87 a88 a89 a90 a91 a92 a93 a94 a95 a96 a97 a98 a99 a100 a101 => 
  call spec_EqualSigned [.agg [a0, a1, a2, a3, a4, a5, a6, a7, a8, a9, a10, a11, a12, a13, a14, a15, a16], .agg [a51, a52, a53, a54, a55, a56, a57, a58, a59, a60, a61, a62, a63, a64, a65, a66, a67]] fun o0 =>
  iteP (atP o0 0)
   (call spec_EqualSigned [.agg [a17, a18, a19, a20, a21, a22, a23, a24, a25, a26, a27, a28, a29, a30, a31, a32, a33], .agg [a68, a69, a70, a71, a72, a73, a74, a75, a76, a77, a78, a79, a80, a81, a82, a83, a84]] fun o1 =>
   iteP (atP o1 0)
    (call spec_EqualSigned [.agg [a34, a35, a36, a37, a38, a39, a40, a41, a42, a43, a44, a45, a46, a47, a48, a49, a50], .agg [a85, a86, a87, a88, a89, a90, a91, a92, a93, a94, a95, a96, a97, a98, a99, a100, a101]] fun o2 =>
    rt [.sc] [(atP o2 0)] k)
    (rt [.sc] [(.bool false)] k))
   (rt [.sc] [(.bool false)] k)) u1) u0
 | _, _ => False
abbrev spec_EqualForks_e : Ent := ⟨[216], spec_EqualForks⟩
theorem spec_EqualForks_w : EntOK Tryz.prog TT spec_EqualForks_e := ent_ok tabok (L := [spec_EqualSigned_e]) ⟨spec_EqualSigned_w, trivial⟩ (keep := []) (l := []) Tryz.func216 (by kernel_rfl) (sg := [.one (.sc)]) (by kernel_rfl) trivial fun av k h => by
  unfold spec_EqualForks at h; split at h
  · apply un_all h; clear h; intro a0 a1 a2 a3 a4 a5 a6 a7 a8 a9 a10 a11 a12 a13 a14 a15 a16 a17 a18 a19 a20 a21 a22 a23 a24 a25 a26 a27 a28 a29 a30 a31 a32 a33 a34 a35 a36 a37 a38 a39 a40 a41 a42 a43 a44 a45 a46 a47 a48 a49 a50 h; apply un_all h; clear h; intro a51 a52 a53 a54 a55 a56 a57 a58 a59 a60 a61 a62 a63 a64 a65 a66 a67 a68 a69 a70 a71 a72 a73 a74 a75 a76 a77 a78 a79 a80 a81 a82 a83 a84 a85 a86 a87 a88 a89 a90 a91 a92 a93 a94 a95 a96 a97 a98 a99 a100 a101 h; exact Eq.mpr (by kernel_rfl) h
  · exact h.elim

def spec_EqualKnown_r0 (v : List PV) (K : List PV → Prop) (x0k : PV → PV → PV → PV → PV → PV → Prop) (x1k : PV → PV → PV → PV → PV → PV → Prop) : Prop :=
 un 6 (fun v0 v1 v2 v3 v4 v5 =>
  lenP v4 fun r0 =>
  binP .lss v1 r0 fun r1 =>
  iteP r1
   (elemP 1 v4 v1 fun c2 =>
   elemP 1 v2 v1 fun c3 =>
   call spec_EqualZones [.agg [(atP c2 0), (.list 4 [])], .agg [(atP c3 0), (.list 4 [])]] fun o4 =>
   unP .not (atP o4 0) fun r5 =>
   iteP r5
    (x0k (atP c3 0) (atP c2 0) v2 v3 v4 v5)
    (binP .add v1 (I 1) fun r6 =>
    K [v0, r6, v2, v3, v4, v5]))
   (x1k v0 v1 v2 v3 v4 v5)) v
def spec_EqualKnown_r1 (v : List PV) (K : List PV → Prop) (x0k : PV → PV → PV → PV → Prop) (x1k : PV → PV → PV → PV → PV → PV → PV → Prop) : Prop :=
 un 7 (fun v0 v1 v2 v3 v4 v5 v6 =>
  lenP v6 fun r0 =>
  binP .lss v2 r0 fun r1 =>
  iteP r1
   (elemP 51 v6 v2 fun c2 =>
   elemP 51 v4 v2 fun c3 =>
   call spec_EqualForks [.agg [(atP c2 0), (atP c2 1), (atP c2 2), (atP c2 3), (atP c2 4), (atP c2 5), (atP c2 6), (atP c2 7), (atP c2 8), (atP c2 9), (atP c2 10), (atP c2 11), (atP c2 12), (atP c2 13), (atP c2 14), (atP c2 15), (atP c2 16), (atP c2 17), (atP c2 18), (atP c2 19), (atP c2 20), (atP c2 21), (atP c2 22), (atP c2 23), (atP c2 24), (atP c2 25), (atP c2 26), (atP c2 27), (atP c2 28), (atP c2 29), (atP c2 30), (atP c2 31), (atP c2 32), (atP c2 33), (atP c2 34), (atP c2 35), (atP c2 36), (atP c2 37), (atP c2 38), (atP c2 39), (atP c2 40), (atP c2 41), (atP c2 42), (atP c2 43), (atP c2 44), (atP c2 45), (atP c2 46), (atP c2 47), (atP c2 48), (atP c2 49), (atP c2 50)], .agg [(atP c3 0), (atP c3 1), (atP c3 2), (atP c3 3), (atP c3 4), (atP c3 5), (atP c3 6), (atP c3 7), (atP c3 8), (atP c3 9), (atP c3 10), (atP c3 11), (atP c3 12), (atP c3 13), (atP c3 14), (atP c3 15), (atP c3 16), (atP c3 17), (atP c3 18), (atP c3 19), (atP c3 20), (atP c3 21), (atP c3 22), (atP c3 23), (atP c3 24), (atP c3 25), (atP c3 26), (atP c3 27), (atP c3 28), (atP c3 29), (atP c3 30), (atP c3 31), (atP c3 32), (atP c3 33), (atP c3 34), (atP c3 35), (atP c3 36), (atP c3 37), (atP c3 38), (atP c3 39), (atP c3 40), (atP c3 41), (atP c3 42), (atP c3 43), (atP c3 44), (atP c3 45), (atP c3 46), (atP c3 47), (atP c3 48), (atP c3 49), (atP c3 50)]] fun o4 =>
   unP .not (atP o4 0) fun r5 =>
   iteP r5
    (x0k v3 v4 v5 v6)
    (binP .add v2 (I 1) fun r6 =>
    K [v0, v1, r6, v3, v4, v5, v6]))
   (x1k v0 v1 v2 v3 v4 v5 v6)) v
def spec_EqualKnown : GM
 | [.agg u0, .agg u1], k => un 2 (fun a0 a1 => un 2 (fun a2 a3 => 
  lenP a0 fun r0 =>
  lenP a2 fun r1 =>
  binP .neq r0 r1 fun r2 =>
  iteP r2
   (rt [.sc] [(.bool false)] k)
   (lenP a1 fun r3 =>
   lenP a3 fun r4 =>
   binP .neq r3 r4 fun r5 =>
   iteP r5
    (rt [.sc] [(.bool false)] k)
    (lp (fun L w => spec_EqualKnown_r0 w L
     (fun q7 q8 q9 q10 q11 q12 => rt [.sc] [(.bool false)] k)
     (fun q13 q14 q15 q16 q17 q18 => lp (fun L w => spec_EqualKnown_r1 w L
       (fun q19 q20 q21 q22 => rt [.sc] [(.bool false)] k)
       (fun q23 q24 q25 q26 q27 q28 q29 => rt [.sc] [(.bool true)] k)) [q13, q14, (I 0), q15, q16, q17, q18])) [(.bool false), (I 0), a2, a3, a0, a1]))) u1) u0
 | _, _ => False
abbrev spec_EqualKnown_e : Ent := ⟨[127], spec_EqualKnown⟩
def spec_EqualKnown_l : List LE := [⟨0, ⟨[(2, .one (.ptr 0 0)), (3, .one (.ptr 1 0)), (4, .one (.pv (.bool false))), (5, .one (.pv (.bool false)))], [(1, [.pv (.bool false), .pv (.bool false)]), (0, [.pv (.bool false), .pv (.bool false)])], [], 2, 67⟩, fun K k v => spec_EqualKnown_r0 v K (fun x0 x1 x2 x3 x4 x5 => k .ret ⟨[(4, .one (.kb false))], [(3, [.pv x0, .nil 101 4]), (3, [.nil 155 17, .nil 101 4]), (2, [.pv x1, .nil 101 4]), (2, [.nil 155 17, .nil 101 4]), (1, [.pv x2, .pv x3]), (0, [.pv x4, .pv x5])], [], 5, 67⟩) (fun x0 x1 x2 x3 x4 x5 => k (.exit 0) ⟨[(2, .one (.ptr 0 0)), (3, .one (.ptr 1 0)), (4, .one (.pv x0)), (5, .one (.pv x1))], [(1, [.pv x2, .pv x3]), (0, [.pv x4, .pv x5])], [], 2, 67⟩)⟩,
  ⟨1, ⟨[(2, .one (.ptr 0 0)), (3, .one (.ptr 1 0)), (4, .one (.pv (.bool false))), (5, .one (.pv (.bool false))), (8, .one (.pv (.bool false)))], [(1, [.pv (.bool false), .pv (.bool false)]), (0, [.pv (.bool false), .pv (.bool false)])], [], 2, 67⟩, fun K k v => spec_EqualKnown_r1 v K (fun x0 x1 x2 x3 => k .ret ⟨[(4, .one (.kb false))], [(1, [.pv x0, .pv x1]), (0, [.pv x2, .pv x3])], [], 3, 67⟩) (fun x0 x1 x2 x3 x4 x5 x6 => k (.exit 2) ⟨[(2, .one (.ptr 0 0)), (3, .one (.ptr 1 0)), (4, .one (.pv x0)), (5, .one (.pv x1)), (8, .one (.pv x2))], [(1, [.pv x3, .pv x4]), (0, [.pv x5, .pv x6])], [], 2, 67⟩)⟩]
theorem spec_EqualKnown_s : LEsOK (orac [spec_EqualZones_e, spec_EqualForks_e]) TT (kk [2, 3, 4, 5, 8]) (sumsOf spec_EqualKnown_l) Tryz.f127 spec_EqualKnown_l := ⟨fun v K k h => by
  apply un_all h; exact fun v0 v1 v2 v3 v4 v5 h => Eq.mpr (by kernel_rfl) h
  , fun v K k h => by
  apply un_all h; exact fun v0 v1 v2 v3 v4 v5 v6 h => Eq.mpr (by kernel_rfl) h
  , trivial⟩
theorem spec_EqualKnown_w : EntOK Tryz.prog TT spec_EqualKnown_e := ent_ok tabok (L := [spec_EqualZones_e, spec_EqualForks_e]) ⟨spec_EqualZones_w, spec_EqualForks_w, trivial⟩ (keep := (kk [2, 3, 4, 5, 8])) (l := spec_EqualKnown_l) Tryz.func127 (by kernel_rfl) (sg := [.one (.sc)]) (by kernel_rfl) spec_EqualKnown_s fun av k h => by
  unfold spec_EqualKnown at h; split at h
  · apply un_all h; clear h; intro a0 a1 h; apply un_all h; clear h; intro a2 a3 h; exact Eq.mpr (by kernel_rfl) h
  · exact h.elim

def spec_EqualProofs : GM
 | [.agg u0, .agg u1], k => un 2 (fun a0 a1 => un 2 (fun a2 a3 => 
  binP .eql a0 a2 fun r0 =>
  iteP r0
   (call spec_EqualInts [.one a1, .one a3] fun o1 =>
   rt [.sc] [(atP o1 0)] k)
   (rt [.sc] [(.bool false)] k)) u1) u0
 | _, _ => False
abbrev spec_EqualProofs_e : Ent := ⟨[291], spec_EqualProofs⟩
theorem spec_EqualProofs_w : EntOK Tryz.prog TT spec_EqualProofs_e := ent_ok tabok (L := [spec_EqualInts_e]) ⟨spec_EqualInts_w, trivial⟩ (keep := []) (l := []) Tryz.func291 (by kernel_rfl) (sg := [.one (.sc)]) (by kernel_rfl) trivial fun av k h => by
  unfold spec_EqualProofs at h; split at h
  · apply un_all h; clear h; intro a0 a1 h; apply un_all h; clear h; intro a2 a3 h; exact Eq.mpr (by kernel_rfl) h
  · exact h.elim

def spec_EqualGaps : GM
 | [.agg u0, .agg u1], k => un 13 (fun a0 a1 a2 a3 a4 a5 a6 a7 a8 a9 a10 a11 a12 => un 13 (fun a13 a14 a15 a16 a17 a18 a19 a20 a21 a22 a23 a24 a25 => 
  binP .eql a0 a13 fun r0 =>
  iteP r0
   (call spec_EqualEntries [.agg [a1, a2, a3, a4], .agg [a14, a15, a16, a17]] fun o1 =>
   iteP (atP o1 0)
    (call spec_EqualEntries [.agg [a5, a6, a7, a8], .agg [a18, a19, a20, a21]] fun o2 =>
    iteP (atP o2 0)
     (call spec_EqualProofs [.agg [a9, a10], .agg [a22, a23]] fun o3 =>
     iteP (atP o3 0)
      (call spec_EqualProofs [.agg [a11, a12], .agg [a24, a25]] fun o4 =>
      rt [.sc] [(atP o4 0)] k)
      (rt [.sc] [(.bool false)] k))
     (rt [.sc] [(.bool false)] k))
    (rt [.sc] [(.bool false)] k))
   (rt [.sc] [(.bool false)] k)) u1) u0
 | _, _ => False
abbrev spec_EqualGaps_e : Ent := ⟨[292], spec_EqualGaps⟩
theorem spec_EqualGaps_w : EntOK Tryz.prog TT spec_EqualGaps_e := ent_ok tabok (L := [spec_EqualEntries_e, spec_EqualProofs_e]) ⟨spec_EqualEntries_w, spec_EqualProofs_w, trivial⟩ (keep := []) (l := []) Tryz.func292 (by kernel_rfl) (sg := [.one (.sc)]) (by kernel_rfl) trivial fun av k h => by
  unfold spec_EqualGaps at h; split at h
  · apply un_all h; clear h; intro a0 a1 a2 a3 a4 a5 a6 a7 a8 a9 a10 a11 a12 h; apply un_all h; clear h; intro a13 a14 a15 a16 a17 a18 a19 a20 a21 a22 a23 a24 a25 h; exact Eq.mpr (by kernel_rfl) h
  · exact h.elim

def spec_EqualAnswers : GM
 | [.agg u0, .agg u1], k => un 21 (fun a0 a1 a2 a3 a4 a5 a6 a7 a8 a9 a10 a11 a12 a13 a14 a15 a16 a17 a18 a19 a20 => un 21 (fun a21 a22 a23 a24 a25 a26 a27 a28 a29 a30 a31 a32 a33 a34 a35 a36 a37 a38 a39 a40 a41 => 
  call spec_EqualZones [.agg [a0, (.list 4 [])], .agg [a21, (.list 4 [])]] fun o0 =>
  iteP (atP o0 0)
   (boolP .eql a1 a22 fun r1 =>
   iteP r1
    (call spec_EqualEntries [.agg [a2, a3, a4, a5], .agg [a23, a24, a25, a26]] fun o2 =>
    iteP (atP o2 0)
     (call spec_EqualProofs [.agg [a6, a7], .agg [a27, a28]] fun o3 =>
     iteP (atP o3 0)
      (call spec_EqualGaps [.agg [a8, a9, a10, a11, a12, a13, a14, a15, a16, a17, a18, a19, a20], .agg [a29, a30, a31, a32, a33, a34, a35, a36, a37, a38, a39, a40, a41]] fun o4 =>
      rt [.sc] [(atP o4 0)] k)
      (rt [.sc] [(.bool false)] k))
     (rt [.sc] [(.bool false)] k))
    (rt [.sc] [(.bool false)] k))
   (rt [.sc] [(.bool false)] k)) u1) u0
 | _, _ => False
abbrev spec_EqualAnswers_e : Ent := ⟨[217], spec_EqualAnswers⟩
theorem spec_EqualAnswers_w : EntOK Tryz.prog TT spec_EqualAnswers_e := ent_ok tabok (L := [spec_EqualZones_e, spec_EqualEntries_e, spec_EqualProofs_e, spec_EqualGaps_e]) ⟨spec_EqualZones_w, spec_EqualEntries_w, spec_EqualProofs_w, spec_EqualGaps_w, trivial⟩ (keep := []) (l := []) Tryz.func217 (by kernel_rfl) (sg := [.one (.sc)]) (by kernel_rfl) trivial fun av k h => by
  unfold spec_EqualAnswers at h; split at h
  · apply un_all h; clear h; intro a0 a1 a2 a3 a4 a5 a6 a7 a8 a9 a10 a11 a12 a13 a14 a15 a16 a17 a18 a19 a20 h; apply un_all h; clear h; intro a21 a22 a23 a24 a25 a26 a27 a28 a29 a30 a31 a32 a33 a34 a35 a36 a37 a38 a39 a40 a41 h; exact Eq.mpr (by kernel_rfl) h
  · exact h.elim

def spec_EqualCaches_r0 (v : List PV) (K : List PV → Prop) (x0k : PV → PV → Prop) (x1k : PV → PV → Prop) (x2k : PV → PV → PV → PV → Prop) : Prop :=
 un 4 (fun v0 v1 v2 v3 =>
  lenP v3 fun r0 =>
  binP .lss v1 r0 fun r1 =>
  iteP r1
   (elemP 23 v3 v1 fun c2 =>
   elemP 23 v2 v1 fun c3 =>
   binP .neq (atP c2 0) (atP c3 0) fun r4 =>
   iteP r4
    (x0k v2 v3)
    (elemP 23 v3 v1 fun c5 =>
    elemP 23 v2 v1 fun c6 =>
    binP .neq (atP c5 1) (atP c6 1) fun r7 =>
    iteP r7
     (x0k v2 v3)
     (elemP 23 v3 v1 fun c8 =>
     elemP 23 v2 v1 fun c9 =>
     call spec_EqualAnswers [.agg [(atP c8 2), (atP c8 3), (atP c8 4), (atP c8 5), (atP c8 6), (atP c8 7), (atP c8 8), (atP c8 9), (atP c8 10), (atP c8 11), (atP c8 12), (atP c8 13), (atP c8 14), (atP c8 15), (atP c8 16), (atP c8 17), (atP c8 18), (atP c8 19), (atP c8 20), (atP c8 21), (atP c8 22)], .agg [(atP c9 2), (atP c9 3), (atP c9 4), (atP c9 5), (atP c9 6), (atP c9 7), (atP c9 8), (atP c9 9), (atP c9 10), (atP c9 11), (atP c9 12), (atP c9 13), (atP c9 14), (atP c9 15), (atP c9 16), (atP c9 17), (atP c9 18), (atP c9 19), (atP c9 20), (atP c9 21), (atP c9 22)]] fun o10 =>
     unP .not (atP o10 0) fun r11 =>
     iteP r11
      (x1k v2 v3)
      (binP .add v1 (I 1) fun r12 =>
      K [v0, r12, v2, v3]))))
   (x2k v0 v1 v2 v3)) v
def spec_EqualCaches : GM
 | [.agg u0, .agg u1], k => un 1 (fun a0 => un 1 (fun a1 => 
  lenP a0 fun r0 =>
  lenP a1 fun r1 =>
  binP .neq r0 r1 fun r2 =>
  iteP r2
   (rt [.sc] [(.bool false)] k)
   (lp (fun L w => spec_EqualCaches_r0 w L
    (fun q13 q14 => rt [.sc] [(.bool false)] k)
    (fun q15 q16 => rt [.sc] [(.bool false)] k)
    (fun q17 q18 q19 q20 => rt [.sc] [(.bool true)] k)) [(.bool false), (I 0), a1, a0])) u1) u0
 | _, _ => False
abbrev spec_EqualCaches_e : Ent := ⟨[128], spec_EqualCaches⟩
def spec_EqualCaches_l : List LE := [⟨0, ⟨[(2, .one (.ptr 0 0)), (3, .one (.ptr 1 0)), (4, .one (.pv (.bool false))), (5, .one (.pv (.bool false)))], [(1, [.pv (.bool false)]), (0, [.pv (.bool false)])], [], 2, 64⟩, fun K k v => spec_EqualCaches_r0 v K (fun x0 x1 => k .ret ⟨[(4, .one (.kb false))], [(1, [.pv x0]), (0, [.pv x1])], [], 2, 64⟩) (fun x0 x1 => k .ret ⟨[(4, .one (.kb false))], [(1, [.pv x0]), (0, [.pv x1])], [], 3, 64⟩) (fun x0 x1 x2 x3 => k (.exit 0) ⟨[(2, .one (.ptr 0 0)), (3, .one (.ptr 1 0)), (4, .one (.pv x0)), (5, .one (.pv x1))], [(1, [.pv x2]), (0, [.pv x3])], [], 2, 64⟩)⟩]
theorem spec_EqualCaches_s : LEsOK (orac [spec_EqualAnswers_e]) TT (kk [2, 3, 4, 5, 34, 35, 36, 37, 38, 39, 40, 41, 42, 43, 44, 45, 46, 49, 50, 51, 52, 53, 54, 55, 56, 57, 58, 59, 60, 61, 62]) (sumsOf spec_EqualCaches_l) Tryz.f128 spec_EqualCaches_l := ⟨fun v K k h => by
  apply un_all h; exact fun v0 v1 v2 v3 h => Eq.mpr (by kernel_rfl) h
  , trivial⟩
theorem spec_EqualCaches_w : EntOK Tryz.prog TT spec_EqualCaches_e := ent_ok tabok (L := [spec_EqualAnswers_e]) ⟨spec_EqualAnswers_w, trivial⟩ (keep := (kk [2, 3, 4, 5, 34, 35, 36, 37, 38, 39, 40, 41, 42, 43, 44, 45, 46, 49, 50, 51, 52, 53, 54, 55, 56, 57, 58, 59, 60, 61, 62])) (l := spec_EqualCaches_l) Tryz.func128 (by kernel_rfl) (sg := [.one (.sc)]) (by kernel_rfl) spec_EqualCaches_s fun av k h => by
  unfold spec_EqualCaches at h; split at h
  · apply un_all h; clear h; intro a0 h; apply un_all h; clear h; intro a1 h; exact Eq.mpr (by kernel_rfl) h
  · exact h.elim

def spec_EqualWorlds_r0 (v : List PV) (K : List PV → Prop) (x0k : PV → PV → PV → PV → PV → PV → PV → PV → PV → PV → PV → PV → PV → PV → PV → PV → Prop) (x1k : PV → PV → PV → PV → PV → PV → PV → PV → PV → PV → PV → PV → PV → PV → PV → PV → PV → PV → Prop) : Prop :=
 un 18 (fun v0 v1 v2 v3 v4 v5 v6 v7 v8 v9 v10 v11 v12 v13 v14 v15 v16 v17 =>
  lenP v12 fun r0 =>
  binP .lss v1 r0 fun r1 =>
  iteP r1
   (elemP 2 v12 v1 fun c2 =>
   elemP 2 v4 v1 fun c3 =>
   call spec_EqualZones [.agg [(atP c2 0), (atP c2 1)], .agg [(atP c3 0), (atP c3 1)]] fun o4 =>
   unP .not (atP o4 0) fun r5 =>
   iteP r5
    (x0k v2 v3 v4 v5 v6 v7 v8 v9 v10 v11 v12 v13 v14 v15 v16 v17)
    (binP .add v1 (I 1) fun r6 =>
    K [v0, r6, v2, v3, v4, v5, v6, v7, v8, v9, v10, v11, v12, v13, v14, v15, v16, v17]))
   (x1k v0 v1 v2 v3 v4 v5 v6 v7 v8 v9 v10 v11 v12 v13 v14 v15 v16 v17)) v
def spec_EqualWorlds_r1 (v : List PV) (K : List PV → Prop) (x0k : PV → PV → PV → PV → PV → PV → PV → PV → PV → PV → PV → PV → PV → PV → PV → PV → Prop) (x1k : PV → PV → PV → PV → PV → PV → PV → PV → PV → PV → PV → PV → PV → PV → PV → PV → Prop) (x2k : PV → PV → PV → PV → PV → PV → PV → PV → PV → PV → PV → PV → PV → PV → PV → PV → PV → PV → PV → Prop) : Prop :=
 un 19 (fun v0 v1 v2 v3 v4 v5 v6 v7 v8 v9 v10 v11 v12 v13 v14 v15 v16 v17 v18 =>
  lenP v14 fun r0 =>
  binP .lss v2 r0 fun r1 =>
  iteP r1
   (elemP 3 v14 v2 fun c2 =>
   elemP 3 v6 v2 fun c3 =>
   call spec_EqualZones [.agg [(atP c2 0), (atP c2 1)], .agg [(atP c3 0), (atP c3 1)]] fun o4 =>
   unP .not (atP o4 0) fun r5 =>
   iteP r5
    (x0k v3 v4 v5 v6 v7 v8 v9 v10 v11 v12 v13 v14 v15 v16 v17 v18)
    (elemP 3 v14 v2 fun c6 =>
    elemP 3 v6 v2 fun c7 =>
    call spec_EqualInts [.one (atP c6 2), .one (atP c7 2)] fun o8 =>
    unP .not (atP o8 0) fun r9 =>
    iteP r9
     (x1k v3 v4 v5 v6 v7 v8 v9 v10 v11 v12 v13 v14 v15 v16 v17 v18)
     (binP .add v2 (I 1) fun r10 =>
     K [v0, v1, r10, v3, v4, v5, v6, v7, v8, v9, v10, v11, v12, v13, v14, v15, v16, v17, v18])))
   (x2k v0 v1 v2 v3 v4 v5 v6 v7 v8 v9 v10 v11 v12 v13 v14 v15 v16 v17 v18)) v
def spec_EqualWorlds_r2 (v : List PV) (K : List PV → Prop) (x0k : PV → PV → PV → PV → PV → PV → PV → PV → PV → PV → PV → PV → PV → PV → PV → PV → Prop) (x1k : PV → PV → PV → PV → PV → PV → PV → PV → PV → PV → PV → PV → PV → PV → PV → PV → PV → PV → PV → PV → Prop) : Prop :=
 un 20 (fun v0 v1 v2 v3 v4 v5 v6 v7 v8 v9 v10 v11 v12 v13 v14 v15 v16 v17 v18 v19 =>
  lenP v16 fun r0 =>
  binP .lss v3 r0 fun r1 =>
  iteP r1
   (elemP 2 v16 v3 fun c2 =>
   elemP 2 v8 v3 fun c3 =>
   call spec_EqualServers [.agg [(atP c2 0), (atP c2 1)], .agg [(atP c3 0), (atP c3 1)]] fun o4 =>
   unP .not (atP o4 0) fun r5 =>
   iteP r5
    (x0k v4 v5 v6 v7 v8 v9 v10 v11 v12 v13 v14 v15 v16 v17 v18 v19)
    (binP .add v3 (I 1) fun r6 =>
    K [v0, v1, v2, r6, v4, v5, v6, v7, v8, v9, v10, v11, v12, v13, v14, v15, v16, v17, v18, v19]))
   (x1k v0 v1 v2 v3 v4 v5 v6 v7 v8 v9 v10 v11 v12 v13 v14 v15 v16 v17 v18 v19)) v
def spec_EqualWorlds : GM
 | [.agg u0, .agg u1], k => un 8 (fun a0 a1 a2 a3 a4 a5 a6 a7 => un 8 (fun a8 a9 a10 a11 a12 a13 a14 a15 => 
  binP .neq a0 a8 fun r0 =>
  iteP r0
   (rt [.sc] [(.bool false)] k)
   (call spec_EqualActors [.one a1, .one a9] fun o1 =>
   unP .not (atP o1 0) fun r2 =>
   iteP r2
    (rt [.sc] [(.bool false)] k)
    (lenP a2 fun r3 =>
    lenP a10 fun r4 =>
    binP .neq r3 r4 fun r5 =>
    iteP r5
     (rt [.sc] [(.bool false)] k)
     (lenP a3 fun r6 =>
     lenP a11 fun r7 =>
     binP .neq r6 r7 fun r8 =>
     iteP r8
      (rt [.sc] [(.bool false)] k)
      (lenP a4 fun r9 =>
      lenP a12 fun r10 =>
      binP .neq r9 r10 fun r11 =>
      iteP r11
       (rt [.sc] [(.bool false)] k)
       (lp (fun L w => spec_EqualWorlds_r0 w L
        (fun q12 q13 q14 q15 q16 q17 q18 q19 q20 q21 q22 q23 q24 q25 q26 q27 => rt [.sc] [(.bool false)] k)
        (fun q28 q29 q30 q31 q32 q33 q34 q35 q36 q37 q38 q39 q40 q41 q42 q43 q44 q45 => lp (fun L w => spec_EqualWorlds_r1 w L
          (fun q46 q47 q48 q49 q50 q51 q52 q53 q54 q55 q56 q57 q58 q59 q60 q61 => rt [.sc] [(.bool false)] k)
          (fun q62 q63 q64 q65 q66 q67 q68 q69 q70 q71 q72 q73 q74 q75 q76 q77 => rt [.sc] [(.bool false)] k)
          (fun q78 q79 q80 q81 q82 q83 q84 q85 q86 q87 q88 q89 q90 q91 q92 q93 q94 q95 q96 => lp (fun L w => spec_EqualWorlds_r2 w L
            (fun q97 q98 q99 q100 q101 q102 q103 q104 q105 q106 q107 q108 q109 q110 q111 q112 => rt [.sc] [(.bool false)] k)
            (fun q113 q114 q115 q116 q117 q118 q119 q120 q121 q122 q123 q124 q125 q126 q127 q128 q129 q130 q131 q132 => call spec_EqualKnown [.agg [q130, q131], .agg [q122, q123]] fun o133 =>
             iteP (atP o133 0)
              (call spec_EqualCaches [.agg [q132], .agg [q124]] fun o134 =>
              rt [.sc] [(atP o134 0)] k)
              (rt [.sc] [(.bool false)] k))) [q78, q79, q80, (I 0), q81, q82, q83, q84, q85, q86, q87, q88, q89, q90, q91, q92, q93, q94, q95, q96])) [q28, q29, (I 0), q30, q31, q32, q33, q34, q35, q36, q37, q38, q39, q40, q41, q42, q43, q44, q45])) [(.bool false), (I 0), a8, a9, a10, a11, a12, a13, a14, a15, a0, a1, a2, a3, a4, a5, a6, a7])))))) u1) u0
 | _, _ => False
abbrev spec_EqualWorlds_e : Ent := ⟨[44], spec_EqualWorlds⟩
def spec_EqualWorlds_l : List LE := [⟨0, ⟨[(2, .one (.ptr 0 0)), (3, .one (.ptr 1 0)), (4, .one (.pv (.bool false))), (5, .one (.pv (.bool false)))], [(1, [.pv (.bool false), .pv (.bool false), .pv (.bool false), .pv (.bool false), .pv (.bool false), .pv (.bool false), .pv (.bool false), .pv (.bool false)]), (0, [.pv (.bool false), .pv (.bool false), .pv (.bool false), .pv (.bool false), .pv (.bool false), .pv (.bool false), .pv (.bool false), .pv (.bool false)])], [], 3, 135⟩, fun K k v => spec_EqualWorlds_r0 v K (fun x0 x1 x2 x3 x4 x5 x6 x7 x8 x9 x10 x11 x12 x13 x14 x15 => k .ret ⟨[(4, .one (.kb false))], [(1, [.pv x0, .pv x1, .pv x2, .pv x3, .pv x4, .pv x5, .pv x6, .pv x7]), (0, [.pv x8, .pv x9, .pv x10, .pv x11, .pv x12, .pv x13, .pv x14, .pv x15])], [], 4, 135⟩) (fun x0 x1 x2 x3 x4 x5 x6 x7 x8 x9 x10 x11 x12 x13 x14 x15 x16 x17 => k (.exit 0) ⟨[(2, .one (.ptr 0 0)), (3, .one (.ptr 1 0)), (4, .one (.pv x0)), (5, .one (.pv x1))], [(1, [.pv x2, .pv x3, .pv x4, .pv x5, .pv x6, .pv x7, .pv x8, .pv x9]), (0, [.pv x10, .pv x11, .pv x12, .pv x13, .pv x14, .pv x15, .pv x16, .pv x17])], [], 3, 135⟩)⟩,
  ⟨1, ⟨[(2, .one (.ptr 0 0)), (3, .one (.ptr 1 0)), (4, .one (.pv (.bool false))), (5, .one (.pv (.bool false))), (6, .one (.pv (.bool false)))], [(1, [.pv (.bool false), .pv (.bool false), .pv (.bool false), .pv (.bool false), .pv (.bool false), .pv (.bool false), .pv (.bool false), .pv (.bool false)]), (0, [.pv (.bool false), .pv (.bool false), .pv (.bool false), .pv (.bool false), .pv (.bool false), .pv (.bool false), .pv (.bool false), .pv (.bool false)])], [], 3, 135⟩, fun K k v => spec_EqualWorlds_r1 v K (fun x0 x1 x2 x3 x4 x5 x6 x7 x8 x9 x10 x11 x12 x13 x14 x15 => k .ret ⟨[(4, .one (.kb false))], [(1, [.pv x0, .pv x1, .pv x2, .pv x3, .pv x4, .pv x5, .pv x6, .pv x7]), (0, [.pv x8, .pv x9, .pv x10, .pv x11, .pv x12, .pv x13, .pv x14, .pv x15])], [], 4, 135⟩) (fun x0 x1 x2 x3 x4 x5 x6 x7 x8 x9 x10 x11 x12 x13 x14 x15 => k .ret ⟨[(4, .one (.kb false))], [(1, [.pv x0, .pv x1, .pv x2, .pv x3, .pv x4, .pv x5, .pv x6, .pv x7]), (0, [.pv x8, .pv x9, .pv x10, .pv x11, .pv x12, .pv x13, .pv x14, .pv x15])], [], 5, 135⟩) (fun x0 x1 x2 x3 x4 x5 x6 x7 x8 x9 x10 x11 x12 x13 x14 x15 x16 x17 x18 => k (.exit 2) ⟨[(2, .one (.ptr 0 0)), (3, .one (.ptr 1 0)), (4, .one (.pv x0)), (5, .one (.pv x1)), (6, .one (.pv x2))], [(1, [.pv x3, .pv x4, .pv x5, .pv x6, .pv x7, .pv x8, .pv x9, .pv x10]), (0, [.pv x11, .pv x12, .pv x13, .pv x14, .pv x15, .pv x16, .pv x17, .pv x18])], [], 3, 135⟩)⟩,
  ⟨2, ⟨[(2, .one (.ptr 0 0)), (3, .one (.ptr 1 0)), (4, .one (.pv (.bool false))), (5, .one (.pv (.bool false))), (6, .one (.pv (.bool false))), (7, .one (.pv (.bool false)))], [(1, [.pv (.bool false), .pv (.bool false), .pv (.bool false), .pv (.bool false), .pv (.bool false), .pv (.bool false), .pv (.bool false), .pv (.bool false)]), (0, [.pv (.bool false), .pv (.bool false), .pv (.bool false), .pv (.bool false), .pv (.bool false), .pv (.bool false), .pv (.bool false), .pv (.bool false)])], [], 3, 135⟩, fun K k v => spec_EqualWorlds_r2 v K (fun x0 x1 x2 x3 x4 x5 x6 x7 x8 x9 x10 x11 x12 x13 x14 x15 => k .ret ⟨[(4, .one (.kb false))], [(1, [.pv x0, .pv x1, .pv x2, .pv x3, .pv x4, .pv x5, .pv x6, .pv x7]), (0, [.pv x8, .pv x9, .pv x10, .pv x11, .pv x12, .pv x13, .pv x14, .pv x15])], [], 4, 135⟩) (fun x0 x1 x2 x3 x4 x5 x6 x7 x8 x9 x10 x11 x12 x13 x14 x15 x16 x17 x18 x19 => k (.exit 4) ⟨[(2, .one (.ptr 0 0)), (3, .one (.ptr 1 0)), (4, .one (.pv x0)), (5, .one (.pv x1)), (6, .one (.pv x2)), (7, .one (.pv x3))], [(1, [.pv x4, .pv x5, .pv x6, .pv x7, .pv x8, .pv x9, .pv x10, .pv x11]), (0, [.pv x12, .pv x13, .pv x14, .pv x15, .pv x16, .pv x17, .pv x18, .pv x19])], [], 3, 135⟩)⟩]
theorem spec_EqualWorlds_s : LEsOK (orac [spec_EqualActors_e, spec_EqualZones_e, spec_EqualInts_e, spec_EqualServers_e, spec_EqualKnown_e, spec_EqualCaches_e]) TT (kk [2, 3, 4, 5, 6, 7, 89, 90, 91, 92, 93, 94, 95, 96, 97, 98, 99, 100, 101, 102, 129, 130, 131, 132, 133]) (sumsOf spec_EqualWorlds_l) Tryz.f44 spec_EqualWorlds_l := ⟨fun v K k h => by
  apply un_all h; exact fun v0 v1 v2 v3 v4 v5 v6 v7 v8 v9 v10 v11 v12 v13 v14 v15 v16 v17 h => Eq.mpr (by kernel_rfl) h
  , fun v K k h => by
  apply un_all h; exact fun v0 v1 v2 v3 v4 v5 v6 v7 v8 v9 v10 v11 v12 v13 v14 v15 v16 v17 v18 h => Eq.mpr (by kernel_rfl) h
  , fun v K k h => by
  apply un_all h; exact fun v0 v1 v2 v3 v4 v5 v6 v7 v8 v9 v10 v11 v12 v13 v14 v15 v16 v17 v18 v19 h => Eq.mpr (by kernel_rfl) h
  , trivial⟩
theorem spec_EqualWorlds_w : EntOK Tryz.prog TT spec_EqualWorlds_e := ent_ok tabok (L := [spec_EqualActors_e, spec_EqualZones_e, spec_EqualInts_e, spec_EqualServers_e, spec_EqualKnown_e, spec_EqualCaches_e]) ⟨spec_EqualActors_w, spec_EqualZones_w, spec_EqualInts_w, spec_EqualServers_w, spec_EqualKnown_w, spec_EqualCaches_w, trivial⟩ (keep := (kk [2, 3, 4, 5, 6, 7, 89, 90, 91, 92, 93, 94, 95, 96, 97, 98, 99, 100, 101, 102, 129, 130, 131, 132, 133])) (l := spec_EqualWorlds_l) Tryz.func44 (by kernel_rfl) (sg := [.one (.sc)]) (by kernel_rfl) spec_EqualWorlds_s fun av k h => by
  unfold spec_EqualWorlds at h; split at h
  · apply un_all h; clear h; intro a0 a1 a2 a3 a4 a5 a6 a7 h; apply un_all h; clear h; intro a8 a9 a10 a11 a12 a13 a14 a15 h; exact Eq.mpr (by kernel_rfl) h
  · exact h.elim

def impl_EqualActors_1 : GM
 | [.agg u0, .agg u1], k => un 1 (fun a0 => un 1 (fun a1 => 
  call slices_Equal_int [.one a0, .one a1] fun o0 =>
  rt [.sc] [(atP o0 0)] k) u1) u0
 | _, _ => False
abbrev impl_EqualActors_1_e : Ent := ⟨[219], impl_EqualActors_1⟩
theorem impl_EqualActors_1_w : EntOK Tryz.prog TT impl_EqualActors_1_e := ent_ok tabok (L := [slices_Equal_int_e]) ⟨slices_Equal_int_w, trivial⟩ (keep := []) (l := []) Tryz.func219 (by kernel_rfl) (sg := [.one (.sc)]) (by kernel_rfl) trivial fun av k h => by
  unfold impl_EqualActors_1 at h; split at h
  · apply un_all h; clear h; intro a0 h; apply un_all h; clear h; intro a1 h; exact Eq.mpr (by kernel_rfl) h
  · exact h.elim

def slices_EqualFunc_Actor_F_impl_EqualActors_1_r0 (v : List PV) (K : List PV → Prop) (x0k : PV → PV → Prop) (x1k : PV → PV → PV → PV → PV → Prop) : Prop :=
 un 5 (fun v0 v1 v2 v3 v4 =>
  binP .lss v4 v3 fun r0 =>
  iteP r0
   (elemP 1 v2 v4 fun c1 =>
   elemP 1 v0 v4 fun c2 =>
   call impl_EqualActors_1 [.agg [(atP c1 0)], .agg [(atP c2 0)]] fun o3 =>
   unP .not (atP o3 0) fun r4 =>
   iteP r4
    (x0k (atP c2 0) (atP c1 0))
    (binP .add v4 (I 1) fun r5 =>
    K [v0, v1, v2, v3, r5]))
   (x1k v0 v1 v2 v3 v4)) v
def slices_EqualFunc_Actor_F_impl_EqualActors_1 : GM
 | [.one a0, .one a1, .fn 219 []], k => 
  lenP a0 fun r0 =>
  lenP a1 fun r1 =>
  binP .neq r0 r1 fun r2 =>
  iteP r2
   (rt [.sc] [(.bool false)] k)
   (lenP a0 fun r3 =>
   lp (fun L w => slices_EqualFunc_Actor_F_impl_EqualActors_1_r0 w L
    (fun q6 q7 => rt [.sc] [(.bool false)] k)
    (fun q8 q9 q10 q11 q12 => rt [.sc] [(.bool true)] k)) [a1, (.bool false), a0, r3, (I 0)])
 | _, _ => False
abbrev slices_EqualFunc_Actor_F_impl_EqualActors_1_e : Ent := ⟨[218, 219], slices_EqualFunc_Actor_F_impl_EqualActors_1⟩
def slices_EqualFunc_Actor_F_impl_EqualActors_1_l : List LE := [⟨0, ⟨[(1, .one (.pv (.bool false))), (2, .one (.fn 219 [])), (6, .one (.pv (.bool false))), (15, .one (.pv (.bool false))), (16, .one (.pv (.bool false))), (17, .one (.pv (.bool false)))], [], [], 0, 32⟩, fun K k v => slices_EqualFunc_Actor_F_impl_EqualActors_1_r0 v K (fun x0 x1 => k .ret ⟨[(6, .one (.kb false))], [(1, [.pv x0]), (1, [.nil 3 1]), (0, [.pv x1]), (0, [.nil 3 1])], [], 3, 32⟩) (fun x0 x1 x2 x3 x4 => k (.exit 0) ⟨[(1, .one (.pv x0)), (2, .one (.fn 219 [])), (6, .one (.pv x1)), (15, .one (.pv x2)), (16, .one (.pv x3)), (17, .one (.pv x4))], [], [], 0, 32⟩)⟩]
theorem slices_EqualFunc_Actor_F_impl_EqualActors_1_s : LEsOK (orac [impl_EqualActors_1_e]) TT (kk [1, 2, 6, 15, 16, 17]) (sumsOf slices_EqualFunc_Actor_F_impl_EqualActors_1_l) Tryz.f218 slices_EqualFunc_Actor_F_impl_EqualActors_1_l := ⟨fun v K k h => by
  apply un_all h; exact fun v0 v1 v2 v3 v4 h => Eq.mpr (by kernel_rfl) h
  , trivial⟩
theorem slices_EqualFunc_Actor_F_impl_EqualActors_1_w : EntOK Tryz.prog TT slices_EqualFunc_Actor_F_impl_EqualActors_1_e := ent_ok tabok (L := [impl_EqualActors_1_e]) ⟨impl_EqualActors_1_w, trivial⟩ (keep := (kk [1, 2, 6, 15, 16, 17])) (l := slices_EqualFunc_Actor_F_impl_EqualActors_1_l) Tryz.func218 (by kernel_rfl) (sg := [.one (.sc)]) (by kernel_rfl) slices_EqualFunc_Actor_F_impl_EqualActors_1_s fun av k h => by
  unfold slices_EqualFunc_Actor_F_impl_EqualActors_1 at h; split at h
  · exact Eq.mpr (by kernel_rfl) h
  · exact h.elim

def impl_EqualActors : GM
 | [.one a0, .one a1], k => 
  call slices_EqualFunc_Actor_F_impl_EqualActors_1 [.one a0, .one a1, .fn 219 []] fun o0 =>
  rt [.sc] [(atP o0 0)] k
 | _, _ => False
abbrev impl_EqualActors_e : Ent := ⟨[129], impl_EqualActors⟩
theorem impl_EqualActors_w : EntOK Tryz.prog TT impl_EqualActors_e := ent_ok tabok (L := [slices_EqualFunc_Actor_F_impl_EqualActors_1_e]) ⟨slices_EqualFunc_Actor_F_impl_EqualActors_1_w, trivial⟩ (keep := []) (l := []) Tryz.func129 (by kernel_rfl) (sg := [.one (.sc)]) (by kernel_rfl) trivial fun av k h => by
  unfold impl_EqualActors at h; split at h
  · exact Eq.mpr (by kernel_rfl) h
  · exact h.elim

def slices_EqualFunc_Signed_1_F_impl_EqualSigned_r0 (v : List PV) (K : List PV → Prop) (x0k : PV → PV → PV → PV → PV → PV → PV → PV → PV → PV → PV → PV → PV → PV → PV → PV → PV → PV → PV → PV → PV → PV → PV → PV → PV → PV → PV → PV → PV → PV → PV → PV → PV → PV → Prop) (x1k : PV → PV → PV → PV → PV → Prop) : Prop :=
 un 5 (fun v0 v1 v2 v3 v4 =>
  binP .lss v4 v3 fun r0 =>
  iteP r0
   (elemP 17 v2 v4 fun c1 =>
   elemP 17 v0 v4 fun c2 =>
   call impl_EqualSigned [.agg [(atP c1 0), (atP c1 1), (atP c1 2), (atP c1 3), (atP c1 4), (atP c1 5), (atP c1 6), (atP c1 7), (atP c1 8), (atP c1 9), (atP c1 10), (atP c1 11), (atP c1 12), (atP c1 13), (atP c1 14), (atP c1 15), (atP c1 16)], .agg [(atP c2 0), (atP c2 1), (atP c2 2), (atP c2 3), (atP c2 4), (atP c2 5), (atP c2 6), (atP c2 7), (atP c2 8), (atP c2 9), (atP c2 10), (atP c2 11), (atP c2 12), (atP c2 13), (atP c2 14), (atP c2 15), (atP c2 16)]] fun o3 =>
   unP .not (atP o3 0) fun r4 =>
   iteP r4
    (x0k (atP c2 0) (atP c2 1) (atP c2 2) (atP c2 3) (atP c2 4) (atP c2 5) (atP c2 6) (atP c2 7) (atP c2 8) (atP c2 9) (atP c2 10) (atP c2 11) (atP c2 12) (atP c2 13) (atP c2 14) (atP c2 15) (atP c2 16) (atP c1 0) (atP c1 1) (atP c1 2) (atP c1 3) (atP c1 4) (atP c1 5) (atP c1 6) (atP c1 7) (atP c1 8) (atP c1 9) (atP c1 10) (atP c1 11) (atP c1 12) (atP c1 13) (atP c1 14) (atP c1 15) (atP c1 16))
    (binP .add v4 (I 1) fun r5 =>
    K [v0, v1, v2, v3, r5]))
   (x1k v0 v1 v2 v3 v4)) v
def slices_EqualFunc_Signed_1_F_impl_EqualSigned : GM
 | [.one a0, .one a1, .fn 214 []], k => 
  lenP a0 fun r0 =>
  lenP a1 fun r1 =>
  binP .neq r0 r1 fun r2 =>
  iteP r2
   (rt [.sc] [(.bool false)] k)
   (lenP a0 fun r3 =>
   lp (fun L w => slices_EqualFunc_Signed_1_F_impl_EqualSigned_r0 w L
    (fun q6 q7 q8 q9 q10 q11 q12 q13 q14 q15 q16 q17 q18 q19 q20 q21 q22 q23 q24 q25 q26 q27 q28 q29 q30 q31 q32 q33 q34 q35 q36 q37 q38 q39 => rt [.sc] [(.bool false)] k)
    (fun q40 q41 q42 q43 q44 => rt [.sc] [(.bool true)] k)) [a1, (.bool false), a0, r3, (I 0)])
 | _, _ => False
abbrev slices_EqualFunc_Signed_1_F_impl_EqualSigned_e : Ent := ⟨[293, 214], slices_EqualFunc_Signed_1_F_impl_EqualSigned⟩
def slices_EqualFunc_Signed_1_F_impl_EqualSigned_l : List LE := [⟨0, ⟨[(1, .one (.pv (.bool false))), (2, .one (.fn 214 [])), (6, .one (.pv (.bool false))), (15, .one (.pv (.bool false))), (16, .one (.pv (.bool false))), (17, .one (.pv (.bool false)))], [], [], 0, 32⟩, fun K k v => slices_EqualFunc_Signed_1_F_impl_EqualSigned_r0 v K (fun x0 x1 x2 x3 x4 x5 x6 x7 x8 x9 x10 x11 x12 x13 x14 x15 x16 x17 x18 x19 x20 x21 x22 x23 x24 x25 x26 x27 x28 x29 x30 x31 x32 x33 => k .ret ⟨[(6, .one (.kb false))], [(1, [.pv x0, .pv x1, .pv x2, .pv x3, .pv x4, .pv x5, .pv x6, .pv x7, .pv x8, .pv x9, .pv x10, .pv x11, .pv x12, .pv x13, .pv x14, .pv x15, .pv x16]), (1, [.pv (I 0), .pv (I 0), .pv (I 0), .pv (I 0), .pv (I 0), .pv (I 0), .pv (I 0), .pv (I 0), .nil 3 1, .pv (I 0), .nil 3 1, .pv (I 0), .pv (I 0), .nil 3 1, .pv (I 0), .pv (.bool false), .nil 251 2]), (0, [.pv x17, .pv x18, .pv x19, .pv x20, .pv x21, .pv x22, .pv x23, .pv x24, .pv x25, .pv x26, .pv x27, .pv x28, .pv x29, .pv x30, .pv x31, .pv x32, .pv x33]), (0, [.pv (I 0), .pv (I 0), .pv (I 0), .pv (I 0), .pv (I 0), .pv (I 0), .pv (I 0), .pv (I 0), .nil 3 1, .pv (I 0), .nil 3 1, .pv (I 0), .pv (I 0), .nil 3 1, .pv (I 0), .pv (.bool false), .nil 251 2])], [], 3, 32⟩) (fun x0 x1 x2 x3 x4 => k (.exit 0) ⟨[(1, .one (.pv x0)), (2, .one (.fn 214 [])), (6, .one (.pv x1)), (15, .one (.pv x2)), (16, .one (.pv x3)), (17, .one (.pv x4))], [], [], 0, 32⟩)⟩]
theorem slices_EqualFunc_Signed_1_F_impl_EqualSigned_s : LEsOK (orac [impl_EqualSigned_e]) TT (kk [1, 2, 6, 15, 16, 17]) (sumsOf slices_EqualFunc_Signed_1_F_impl_EqualSigned_l) Tryz.f293 slices_EqualFunc_Signed_1_F_impl_EqualSigned_l := ⟨fun v K k h => by
  apply un_all h; exact fun v0 v1 v2 v3 v4 h => Eq.mpr (by kernel_rfl) h
  , trivial⟩
theorem slices_EqualFunc_Signed_1_F_impl_EqualSigned_w : EntOK Tryz.prog TT slices_EqualFunc_Signed_1_F_impl_EqualSigned_e := ent_ok tabok (L := [impl_EqualSigned_e]) ⟨impl_EqualSigned_w, trivial⟩ (keep := (kk [1, 2, 6, 15, 16, 17])) (l := slices_EqualFunc_Signed_1_F_impl_EqualSigned_l) Tryz.func293 (by kernel_rfl) (sg := [.one (.sc)]) (by kernel_rfl) slices_EqualFunc_Signed_1_F_impl_EqualSigned_s fun av k h => by
  unfold slices_EqualFunc_Signed_1_F_impl_EqualSigned at h; split at h
  · exact Eq.mpr (by kernel_rfl) h
  · exact h.elim

def impl_sameChain : GM
 | [.one a0, .one a1], k => 
  call slices_EqualFunc_Signed_1_F_impl_EqualSigned [.one a0, .one a1, .fn 214 []] fun o0 =>
  rt [.sc] [(atP o0 0)] k
 | _, _ => False
abbrev impl_sameChain_e : Ent := ⟨[220], impl_sameChain⟩
theorem impl_sameChain_w : EntOK Tryz.prog TT impl_sameChain_e := ent_ok tabok (L := [slices_EqualFunc_Signed_1_F_impl_EqualSigned_e]) ⟨slices_EqualFunc_Signed_1_F_impl_EqualSigned_w, trivial⟩ (keep := []) (l := []) Tryz.func220 (by kernel_rfl) (sg := [.one (.sc)]) (by kernel_rfl) trivial fun av k h => by
  unfold impl_sameChain at h; split at h
  · exact Eq.mpr (by kernel_rfl) h
  · exact h.elim

def impl_EqualZones : GM
 | [.agg u0, .agg u1], k => un 2 (fun a0 a1 => un 2 (fun a2 a3 => 
  call impl_sameChain [.one a0, .one a2] fun o0 =>
  iteP (atP o0 0)
   (call impl_SameEntries [.one a1, .one a3] fun o1 =>
   rt [.sc] [(atP o1 0)] k)
   (rt [.sc] [(.bool false)] k)) u1) u0
 | _, _ => False
abbrev impl_EqualZones_e : Ent := ⟨[131], impl_EqualZones⟩
theorem impl_EqualZones_w : EntOK Tryz.prog TT impl_EqualZones_e := ent_ok tabok (L := [impl_sameChain_e, impl_SameEntries_e]) ⟨impl_sameChain_w, impl_SameEntries_w, trivial⟩ (keep := []) (l := []) Tryz.func131 (by kernel_rfl) (sg := [.one (.sc)]) (by kernel_rfl) trivial fun av k h => by
  unfold impl_EqualZones at h; split at h
  · apply un_all h; clear h; intro a0 a1 h; apply un_all h; clear h; intro a2 a3 h; exact Eq.mpr (by kernel_rfl) h
  · exact h.elim

def slices_EqualFunc_Zone_F_impl_EqualZones_r0 (v : List PV) (K : List PV → Prop) (x0k : PV → PV → PV → PV → Prop) (x1k : PV → PV → PV → PV → PV → Prop) : Prop :=
 un 5 (fun v0 v1 v2 v3 v4 =>
  binP .lss v4 v3 fun r0 =>
  iteP r0
   (elemP 2 v2 v4 fun c1 =>
   elemP 2 v0 v4 fun c2 =>
   call impl_EqualZones [.agg [(atP c1 0), (atP c1 1)], .agg [(atP c2 0), (atP c2 1)]] fun o3 =>
   unP .not (atP o3 0) fun r4 =>
   iteP r4
    (x0k (atP c2 0) (atP c2 1) (atP c1 0) (atP c1 1))
    (binP .add v4 (I 1) fun r5 =>
    K [v0, v1, v2, v3, r5]))
   (x1k v0 v1 v2 v3 v4)) v
def slices_EqualFunc_Zone_F_impl_EqualZones : GM
 | [.one a0, .one a1, .fn 131 []], k => 
  lenP a0 fun r0 =>
  lenP a1 fun r1 =>
  binP .neq r0 r1 fun r2 =>
  iteP r2
   (rt [.sc] [(.bool false)] k)
   (lenP a0 fun r3 =>
   lp (fun L w => slices_EqualFunc_Zone_F_impl_EqualZones_r0 w L
    (fun q6 q7 q8 q9 => rt [.sc] [(.bool false)] k)
    (fun q10 q11 q12 q13 q14 => rt [.sc] [(.bool true)] k)) [a1, (.bool false), a0, r3, (I 0)])
 | _, _ => False
abbrev slices_EqualFunc_Zone_F_impl_EqualZones_e : Ent := ⟨[130, 131], slices_EqualFunc_Zone_F_impl_EqualZones⟩
def slices_EqualFunc_Zone_F_impl_EqualZones_l : List LE := [⟨0, ⟨[(1, .one (.pv (.bool false))), (2, .one (.fn 131 [])), (6, .one (.pv (.bool false))), (15, .one (.pv (.bool false))), (16, .one (.pv (.bool false))), (17, .one (.pv (.bool false)))], [], [], 0, 32⟩, fun K k v => slices_EqualFunc_Zone_F_impl_EqualZones_r0 v K (fun x0 x1 x2 x3 => k .ret ⟨[(6, .one (.kb false))], [(1, [.pv x0, .pv x1]), (1, [.nil 155 17, .nil 101 4]), (0, [.pv x2, .pv x3]), (0, [.nil 155 17, .nil 101 4])], [], 3, 32⟩) (fun x0 x1 x2 x3 x4 => k (.exit 0) ⟨[(1, .one (.pv x0)), (2, .one (.fn 131 [])), (6, .one (.pv x1)), (15, .one (.pv x2)), (16, .one (.pv x3)), (17, .one (.pv x4))], [], [], 0, 32⟩)⟩]
theorem slices_EqualFunc_Zone_F_impl_EqualZones_s : LEsOK (orac [impl_EqualZones_e]) TT (kk [1, 2, 6, 15, 16, 17]) (sumsOf slices_EqualFunc_Zone_F_impl_EqualZones_l) Tryz.f130 slices_EqualFunc_Zone_F_impl_EqualZones_l := ⟨fun v K k h => by
  apply un_all h; exact fun v0 v1 v2 v3 v4 h => Eq.mpr (by kernel_rfl) h
  , trivial⟩
theorem slices_EqualFunc_Zone_F_impl_EqualZones_w : EntOK Tryz.prog TT slices_EqualFunc_Zone_F_impl_EqualZones_e := ent_ok tabok (L := [impl_EqualZones_e]) ⟨impl_EqualZones_w, trivial⟩ (keep := (kk [1, 2, 6, 15, 16, 17])) (l := slices_EqualFunc_Zone_F_impl_EqualZones_l) Tryz.func130 (by kernel_rfl) (sg := [.one (.sc)]) (by kernel_rfl) slices_EqualFunc_Zone_F_impl_EqualZones_s fun av k h => by
  unfold slices_EqualFunc_Zone_F_impl_EqualZones at h; split at h
  · exact Eq.mpr (by kernel_rfl) h
  · exact h.elim

def impl_EqualWorlds_1 : GM
 | [.agg u0, .agg u1], k => un 3 (fun a0 a1 a2 => un 3 (fun a3 a4 a5 => 
  call impl_EqualZones [.agg [a0, a1], .agg [a3, a4]] fun o0 =>
  iteP (atP o0 0)
   (call slices_Equal_int [.one a2, .one a5] fun o1 =>
   rt [.sc] [(atP o1 0)] k)
   (rt [.sc] [(.bool false)] k)) u1) u0
 | _, _ => False
abbrev impl_EqualWorlds_1_e : Ent := ⟨[133], impl_EqualWorlds_1⟩
theorem impl_EqualWorlds_1_w : EntOK Tryz.prog TT impl_EqualWorlds_1_e := ent_ok tabok (L := [impl_EqualZones_e, slices_Equal_int_e]) ⟨impl_EqualZones_w, slices_Equal_int_w, trivial⟩ (keep := []) (l := []) Tryz.func133 (by kernel_rfl) (sg := [.one (.sc)]) (by kernel_rfl) trivial fun av k h => by
  unfold impl_EqualWorlds_1 at h; split at h
  · apply un_all h; clear h; intro a0 a1 a2 h; apply un_all h; clear h; intro a3 a4 a5 h; exact Eq.mpr (by kernel_rfl) h
  · exact h.elim

def slices_EqualFunc_Said_F_impl_EqualWorlds_1_r0 (v : List PV) (K : List PV → Prop) (x0k : PV → PV → PV → PV → PV → PV → Prop) (x1k : PV → PV → PV → PV → PV → Prop) : Prop :=
 un 5 (fun v0 v1 v2 v3 v4 =>
  binP .lss v4 v3 fun r0 =>
  iteP r0
   (elemP 3 v2 v4 fun c1 =>
   elemP 3 v0 v4 fun c2 =>
   call impl_EqualWorlds_1 [.agg [(atP c1 0), (atP c1 1), (atP c1 2)], .agg [(atP c2 0), (atP c2 1), (atP c2 2)]] fun o3 =>
   unP .not (atP o3 0) fun r4 =>
   iteP r4
    (x0k (atP c2 0) (atP c2 1) (atP c2 2) (atP c1 0) (atP c1 1) (atP c1 2))
    (binP .add v4 (I 1) fun r5 =>
    K [v0, v1, v2, v3, r5]))
   (x1k v0 v1 v2 v3 v4)) v
def slices_EqualFunc_Said_F_impl_EqualWorlds_1 : GM
 | [.one a0, .one a1, .fn 133 []], k => 
  lenP a0 fun r0 =>
  lenP a1 fun r1 =>
  binP .neq r0 r1 fun r2 =>
  iteP r2
   (rt [.sc] [(.bool false)] k)
   (lenP a0 fun r3 =>
   lp (fun L w => slices_EqualFunc_Said_F_impl_EqualWorlds_1_r0 w L
    (fun q6 q7 q8 q9 q10 q11 => rt [.sc] [(.bool false)] k)
    (fun q12 q13 q14 q15 q16 => rt [.sc] [(.bool true)] k)) [a1, (.bool false), a0, r3, (I 0)])
 | _, _ => False
abbrev slices_EqualFunc_Said_F_impl_EqualWorlds_1_e : Ent := ⟨[132, 133], slices_EqualFunc_Said_F_impl_EqualWorlds_1⟩
def slices_EqualFunc_Said_F_impl_EqualWorlds_1_l : List LE := [⟨0, ⟨[(1, .one (.pv (.bool false))), (2, .one (.fn 133 [])), (6, .one (.pv (.bool false))), (15, .one (.pv (.bool false))), (16, .one (.pv (.bool false))), (17, .one (.pv (.bool false)))], [], [], 0, 32⟩, fun K k v => slices_EqualFunc_Said_F_impl_EqualWorlds_1_r0 v K (fun x0 x1 x2 x3 x4 x5 => k .ret ⟨[(6, .one (.kb false))], [(1, [.pv x0, .pv x1, .pv x2]), (1, [.nil 155 17, .nil 101 4, .nil 3 1]), (0, [.pv x3, .pv x4, .pv x5]), (0, [.nil 155 17, .nil 101 4, .nil 3 1])], [], 3, 32⟩) (fun x0 x1 x2 x3 x4 => k (.exit 0) ⟨[(1, .one (.pv x0)), (2, .one (.fn 133 [])), (6, .one (.pv x1)), (15, .one (.pv x2)), (16, .one (.pv x3)), (17, .one (.pv x4))], [], [], 0, 32⟩)⟩]
theorem slices_EqualFunc_Said_F_impl_EqualWorlds_1_s : LEsOK (orac [impl_EqualWorlds_1_e]) TT (kk [1, 2, 6, 15, 16, 17]) (sumsOf slices_EqualFunc_Said_F_impl_EqualWorlds_1_l) Tryz.f132 slices_EqualFunc_Said_F_impl_EqualWorlds_1_l := ⟨fun v K k h => by
  apply un_all h; exact fun v0 v1 v2 v3 v4 h => Eq.mpr (by kernel_rfl) h
  , trivial⟩
theorem slices_EqualFunc_Said_F_impl_EqualWorlds_1_w : EntOK Tryz.prog TT slices_EqualFunc_Said_F_impl_EqualWorlds_1_e := ent_ok tabok (L := [impl_EqualWorlds_1_e]) ⟨impl_EqualWorlds_1_w, trivial⟩ (keep := (kk [1, 2, 6, 15, 16, 17])) (l := slices_EqualFunc_Said_F_impl_EqualWorlds_1_l) Tryz.func132 (by kernel_rfl) (sg := [.one (.sc)]) (by kernel_rfl) slices_EqualFunc_Said_F_impl_EqualWorlds_1_s fun av k h => by
  unfold slices_EqualFunc_Said_F_impl_EqualWorlds_1 at h; split at h
  · exact Eq.mpr (by kernel_rfl) h
  · exact h.elim

def impl_EqualServers : GM
 | [.agg u0, .agg u1], k => un 2 (fun a0 a1 => un 2 (fun a2 a3 => 
  binP .eql a1 a3 fun r0 =>
  iteP r0
   (call slices_EqualFunc_Zone_F_impl_EqualZones [.one a0, .one a2, .fn 131 []] fun o1 =>
   rt [.sc] [(atP o1 0)] k)
   (rt [.sc] [(.bool false)] k)) u1) u0
 | _, _ => False
abbrev impl_EqualServers_e : Ent := ⟨[136], impl_EqualServers⟩
theorem impl_EqualServers_w : EntOK Tryz.prog TT impl_EqualServers_e := ent_ok tabok (L := [slices_EqualFunc_Zone_F_impl_EqualZones_e]) ⟨slices_EqualFunc_Zone_F_impl_EqualZones_w, trivial⟩ (keep := []) (l := []) Tryz.func136 (by kernel_rfl) (sg := [.one (.sc)]) (by kernel_rfl) trivial fun av k h => by
  unfold impl_EqualServers at h; split at h
  · apply un_all h; clear h; intro a0 a1 h; apply un_all h; clear h; intro a2 a3 h; exact Eq.mpr (by kernel_rfl) h
  · exact h.elim

def slices_EqualFunc_Server_F_impl_EqualServers_r0 (v : List PV) (K : List PV → Prop) (x0k : PV → PV → PV → PV → Prop) (x1k : PV → PV → PV → PV → PV → Prop) : Prop :=
 un 5 (fun v0 v1 v2 v3 v4 =>
  binP .lss v4 v3 fun r0 =>
  iteP r0
   (elemP 2 v2 v4 fun c1 =>
   elemP 2 v0 v4 fun c2 =>
   call impl_EqualServers [.agg [(atP c1 0), (atP c1 1)], .agg [(atP c2 0), (atP c2 1)]] fun o3 =>
   unP .not (atP o3 0) fun r4 =>
   iteP r4
    (x0k (atP c2 0) (atP c2 1) (atP c1 0) (atP c1 1))
    (binP .add v4 (I 1) fun r5 =>
    K [v0, v1, v2, v3, r5]))
   (x1k v0 v1 v2 v3 v4)) v
def slices_EqualFunc_Server_F_impl_EqualServers : GM
 | [.one a0, .one a1, .fn 136 []], k => 
  lenP a0 fun r0 =>
  lenP a1 fun r1 =>
  binP .neq r0 r1 fun r2 =>
  iteP r2
   (rt [.sc] [(.bool false)] k)
   (lenP a0 fun r3 =>
   lp (fun L w => slices_EqualFunc_Server_F_impl_EqualServers_r0 w L
    (fun q6 q7 q8 q9 => rt [.sc] [(.bool false)] k)
    (fun q10 q11 q12 q13 q14 => rt [.sc] [(.bool true)] k)) [a1, (.bool false), a0, r3, (I 0)])
 | _, _ => False
abbrev slices_EqualFunc_Server_F_impl_EqualServers_e : Ent := ⟨[135, 136], slices_EqualFunc_Server_F_impl_EqualServers⟩
def slices_EqualFunc_Server_F_impl_EqualServers_l : List LE := [⟨0, ⟨[(1, .one (.pv (.bool false))), (2, .one (.fn 136 [])), (6, .one (.pv (.bool false))), (15, .one (.pv (.bool false))), (16, .one (.pv (.bool false))), (17, .one (.pv (.bool false)))], [], [], 0, 32⟩, fun K k v => slices_EqualFunc_Server_F_impl_EqualServers_r0 v K (fun x0 x1 x2 x3 => k .ret ⟨[(6, .one (.kb false))], [(1, [.pv x0, .pv x1]), (1, [.nil 46 2, .pv (I 0)]), (0, [.pv x2, .pv x3]), (0, [.nil 46 2, .pv (I 0)])], [], 3, 32⟩) (fun x0 x1 x2 x3 x4 => k (.exit 0) ⟨[(1, .one (.pv x0)), (2, .one (.fn 136 [])), (6, .one (.pv x1)), (15, .one (.pv x2)), (16, .one (.pv x3)), (17, .one (.pv x4))], [], [], 0, 32⟩)⟩]
theorem slices_EqualFunc_Server_F_impl_EqualServers_s : LEsOK (orac [impl_EqualServers_e]) TT (kk [1, 2, 6, 15, 16, 17]) (sumsOf slices_EqualFunc_Server_F_impl_EqualServers_l) Tryz.f135 slices_EqualFunc_Server_F_impl_EqualServers_l := ⟨fun v K k h => by
  apply un_all h; exact fun v0 v1 v2 v3 v4 h => Eq.mpr (by kernel_rfl) h
  , trivial⟩
theorem slices_EqualFunc_Server_F_impl_EqualServers_w : EntOK Tryz.prog TT slices_EqualFunc_Server_F_impl_EqualServers_e := ent_ok tabok (L := [impl_EqualServers_e]) ⟨impl_EqualServers_w, trivial⟩ (keep := (kk [1, 2, 6, 15, 16, 17])) (l := slices_EqualFunc_Server_F_impl_EqualServers_l) Tryz.func135 (by kernel_rfl) (sg := [.one (.sc)]) (by kernel_rfl) slices_EqualFunc_Server_F_impl_EqualServers_s fun av k h => by
  unfold slices_EqualFunc_Server_F_impl_EqualServers at h; split at h
  · exact Eq.mpr (by kernel_rfl) h
  · exact h.elim

def slices_EqualFunc_Signed_F_impl_sameChain_r0 (v : List PV) (K : List PV → Prop) (x0k : Prop) (x1k : PV → PV → PV → PV → PV → Prop) : Prop :=
 un 5 (fun v0 v1 v2 v3 v4 =>
  binP .lss v4 v3 fun r0 =>
  iteP r0
   (elemP 1 v2 v4 fun c1 =>
   elemP 1 v0 v4 fun c2 =>
   call impl_sameChain [.one (atP c1 0), .one (atP c2 0)] fun o3 =>
   unP .not (atP o3 0) fun r4 =>
   iteP r4
    (x0k)
    (binP .add v4 (I 1) fun r5 =>
    K [v0, v1, v2, v3, r5]))
   (x1k v0 v1 v2 v3 v4)) v
def slices_EqualFunc_Signed_F_impl_sameChain : GM
 | [.one a0, .one a1, .fn 220 []], k => 
  lenP a0 fun r0 =>
  lenP a1 fun r1 =>
  binP .neq r0 r1 fun r2 =>
  iteP r2
   (rt [.sc] [(.bool false)] k)
   (lenP a0 fun r3 =>
   lp (fun L w => slices_EqualFunc_Signed_F_impl_sameChain_r0 w L
    (rt [.sc] [(.bool false)] k)
    (fun q6 q7 q8 q9 q10 => rt [.sc] [(.bool true)] k)) [a1, (.bool false), a0, r3, (I 0)])
 | _, _ => False
abbrev slices_EqualFunc_Signed_F_impl_sameChain_e : Ent := ⟨[221, 220], slices_EqualFunc_Signed_F_impl_sameChain⟩
def slices_EqualFunc_Signed_F_impl_sameChain_l : List LE := [⟨0, ⟨[(1, .one (.pv (.bool false))), (2, .one (.fn 220 [])), (6, .one (.pv (.bool false))), (15, .one (.pv (.bool false))), (16, .one (.pv (.bool false))), (17, .one (.pv (.bool false)))], [], [], 0, 32⟩, fun K k v => slices_EqualFunc_Signed_F_impl_sameChain_r0 v K (k .ret ⟨[(6, .one (.kb false))], [], [], 1, 32⟩) (fun x0 x1 x2 x3 x4 => k (.exit 0) ⟨[(1, .one (.pv x0)), (2, .one (.fn 220 [])), (6, .one (.pv x1)), (15, .one (.pv x2)), (16, .one (.pv x3)), (17, .one (.pv x4))], [], [], 0, 32⟩)⟩]
theorem slices_EqualFunc_Signed_F_impl_sameChain_s : LEsOK (orac [impl_sameChain_e]) TT (kk [1, 2, 6, 15, 16, 17]) (sumsOf slices_EqualFunc_Signed_F_impl_sameChain_l) Tryz.f221 slices_EqualFunc_Signed_F_impl_sameChain_l := ⟨fun v K k h => by
  apply un_all h; exact fun v0 v1 v2 v3 v4 h => Eq.mpr (by kernel_rfl) h
  , trivial⟩
theorem slices_EqualFunc_Signed_F_impl_sameChain_w : EntOK Tryz.prog TT slices_EqualFunc_Signed_F_impl_sameChain_e := ent_ok tabok (L := [impl_sameChain_e]) ⟨impl_sameChain_w, trivial⟩ (keep := (kk [1, 2, 6, 15, 16, 17])) (l := slices_EqualFunc_Signed_F_impl_sameChain_l) Tryz.func221 (by kernel_rfl) (sg := [.one (.sc)]) (by kernel_rfl) slices_EqualFunc_Signed_F_impl_sameChain_s fun av k h => by
  unfold slices_EqualFunc_Signed_F_impl_sameChain at h; split at h
  · exact Eq.mpr (by kernel_rfl) h
  · exact h.elim

def impl_EqualForks : GM
 | [.agg u0, .agg u1], k => un 51 (fun a0 a1 a2 a3 a4 a5 a6 a7 a8 a9 a10 a11 a12 a13 a14 a15 a16 a17 a18 a19 a20 a21 a22 a23 a24 a25 a26 a27 a28 a29 a30 a31 a32 a33 a34 a35 a36 a37 a38 a39 a40 a41 a42 a43 a44 a45 a46 a47 a48 a49 a50 => un 51 (fun a51 a52 a53 a54 a55 a56 a57 a58 a59 a60 a61 a62 a63 a64 a65 a66 a67 a68 a69 a70 a71 a72 a73 a74 a75 a76 a77 a78 a79 a80 a81 a82 a83 a84 a85 a86 a87 a88 a89 a90 a91 a92 a93 a94 a95 a96 a97 a98 a99 a100 a101 => 
  call impl_EqualSigned [.agg [a0, a1, a2, a3, a4, a5, a6, a7, a8, a9, a10, a11, a12, a13, a14, a15, a16], .agg [a51, a52, a53, a54, a55, a56, a57, a58, a59, a60, a61, a62, a63, a64, a65, a66, a67]] fun o0 =>
  iteP (atP o0 0)
   (call impl_EqualSigned [.agg [a17, a18, a19, a20, a21, a22, a23, a24, a25, a26, a27, a28, a29, a30, a31, a32, a33], .agg [a68, a69, a70, a71, a72, a73, a74, a75, a76, a77, a78, a79, a80, a81, a82, a83, a84]] fun o1 =>
   iteP (atP o1 0)
    (call impl_EqualSigned [.agg [a34, a35, a36, a37, a38, a39, a40, a41, a42, a43, a44, a45, a46, a47, a48, a49, a50], .agg [a85, a86, a87, a88, a89, a90, a91, a92, a93, a94, a95, a96, a97, a98, a99, a100, a101]] fun o2 =>
    rt [.sc] [(atP o2 0)] k)
    (rt [.sc] [(.bool false)] k))
   (rt [.sc] [(.bool false)] k)) u1) u0
 | _, _ => False
abbrev impl_EqualForks_e : Ent := ⟨[223], impl_EqualForks⟩
theorem impl_EqualForks_w : EntOK Tryz.prog TT impl_EqualForks_e := ent_ok tabok (L := [impl_EqualSigned_e]) ⟨impl_EqualSigned_w, trivial⟩ (keep := []) (l := []) Tryz.func223 (by kernel_rfl) (sg := [.one (.sc)]) (by kernel_rfl) trivial fun av k h => by
  unfold impl_EqualForks at h; split at h
  · apply un_all h; clear h; intro a0 a1 a2 a3 a4 a5 a6 a7 a8 a9 a10 a11 a12 a13 a14 a15 a16 a17 a18 a19 a20 a21 a22 a23 a24 a25 a26 a27 a28 a29 a30 a31 a32 a33 a34 a35 a36 a37 a38 a39 a40 a41 a42 a43 a44 a45 a46 a47 a48 a49 a50 h; apply un_all h; clear h; intro a51 a52 a53 a54 a55 a56 a57 a58 a59 a60 a61 a62 a63 a64 a65 a66 a67 a68 a69 a70 a71 a72 a73 a74 a75 a76 a77 a78 a79 a80 a81 a82 a83 a84 a85 a86 a87 a88 a89 a90 a91 a92 a93 a94 a95 a96 a97 a98 a99 a100 a101 h; exact Eq.mpr (by kernel_rfl) h
  · exact h.elim

def slices_EqualFunc_Fork_F_impl_EqualForks_r0 (v : List PV) (K : List PV → Prop) (x0k : PV → PV → PV → PV → PV → PV → PV → PV → PV → PV → PV → PV → PV → PV → PV → PV → PV → PV → PV → PV → PV → PV → PV → PV → PV → PV → PV → PV → PV → PV → PV → PV → PV → PV → PV → PV → PV → PV → PV → PV → PV → PV → PV → PV → PV → PV → PV → PV → PV → PV → PV → PV → PV → PV → PV → PV → PV → PV → PV → PV → PV → PV → PV → PV → PV → PV → PV → PV → PV → PV → PV → PV → PV → PV → PV → PV → PV → PV → PV → PV → PV → PV → PV → PV → PV → PV → PV → PV → PV → PV → PV → PV → PV → PV → PV → PV → PV → PV → PV → PV → PV → PV → Prop) (x1k : PV → PV → PV → PV → PV → Prop) : Prop :=
 un 5 (fun v0 v1 v2 v3 v4 =>
  binP .lss v4 v3 fun r0 =>
  iteP r0
   (elemP 51 v2 v4 fun c1 =>
   elemP 51 v0 v4 fun c2 =>
   call impl_EqualForks [.agg [(atP c1 0), (atP c1 1), (atP c1 2), (atP c1 3), (atP c1 4), (atP c1 5), (atP c1 6), (atP c1 7), (atP c1 8), (atP c1 9), (atP c1 10), (atP c1 11), (atP c1 12), (atP c1 13), (atP c1 14), (atP c1 15), (atP c1 16), (atP c1 17), (atP c1 18), (atP c1 19), (atP c1 20), (atP c1 21), (atP c1 22), (atP c1 23), (atP c1 24), (atP c1 25), (atP c1 26), (atP c1 27), (atP c1 28), (atP c1 29), (atP c1 30), (atP c1 31), (atP c1 32), (atP c1 33), (atP c1 34), (atP c1 35), (atP c1 36), (atP c1 37), (atP c1 38), (atP c1 39), (atP c1 40), (atP c1 41), (atP c1 42), (atP c1 43), (atP c1 44), (atP c1 45), (atP c1 46), (atP c1 47), (atP c1 48), (atP c1 49), (atP c1 50)], .agg [(atP c2 0), (atP c2 1), (atP c2 2), (atP c2 3), (atP c2 4), (atP c2 5), (atP c2 6), (atP c2 7), (atP c2 8), (atP c2 9), (atP c2 10), (atP c2 11), (atP c2 12), (atP c2 13), (atP c2 14), (atP c2 15), (atP c2 16), (atP c2 17), (atP c2 18), (atP c2 19), (atP c2 20), (atP c2 21), (atP c2 22), (atP c2 23), (atP c2 24), (atP c2 25), (atP c2 26), (atP c2 27), (atP c2 28), (atP c2 29), (atP c2 30), (atP c2 31), (atP c2 32), (atP c2 33), (atP c2 34), (atP c2 35), (atP c2 36), (atP c2 37), (atP c2 38), (atP c2 39), (atP c2 40), (atP c2 41), (atP c2 42), (atP c2 43), (atP c2 44), (atP c2 45), (atP c2 46), (atP c2 47), (atP c2 48), (atP c2 49), (atP c2 50)]] fun o3 =>
   unP .not (atP o3 0) fun r4 =>
   iteP r4
    (x0k (atP c2 0) (atP c2 1) (atP c2 2) (atP c2 3) (atP c2 4) (atP c2 5) (atP c2 6) (atP c2 7) (atP c2 8) (atP c2 9) (atP c2 10) (atP c2 11) (atP c2 12) (atP c2 13) (atP c2 14) (atP c2 15) (atP c2 16) (atP c2 17) (atP c2 18) (atP c2 19) (atP c2 20) (atP c2 21) (atP c2 22) (atP c2 23) (atP c2 24) (atP c2 25) (atP c2 26) (atP c2 27) (atP c2 28) (atP c2 29) (atP c2 30) (atP c2 31) (atP c2 32) (atP c2 33) (atP c2 34) (atP c2 35) (atP c2 36) (atP c2 37) (atP c2 38) (atP c2 39) (atP c2 40) (atP c2 41) (atP c2 42) (atP c2 43) (atP c2 44) (atP c2 45) (atP c2 46) (atP c2 47) (atP c2 48) (atP c2 49) (atP c2 50) (atP c1 0) (atP c1 1) (atP c1 2) (atP c1 3) (atP c1 4) (atP c1 5) (atP c1 6) (atP c1 7) (atP c1 8) (atP c1 9) (atP c1 10) (atP c1 11) (atP c1 12) (atP c1 13) (atP c1 14) (atP c1 15) (atP c1 16) (atP c1 17) (atP c1 18) (atP c1 19) (atP c1 20) (atP c1 21) (atP c1 22) (atP c1 23) (atP c1 24) (atP c1 25) (atP c1 26) (atP c1 27) (atP c1 28) (atP c1 29) (atP c1 30) (atP c1 31) (atP c1 32) (atP c1 33) (atP c1 34) (atP c1 35) (atP c1 36) (atP c1 37) (atP c1 38) (atP c1 39) (atP c1 40) (atP c1 41) (atP c1 42) (atP c1 43) (atP c1 44) (atP c1 45) (atP c1 46) (atP c1 47) (atP c1 48) (atP c1 49) (atP c1 50))
    (binP .add v4 (I 1) fun r5 =>
    K [v0, v1, v2, v3, r5]))
   (x1k v0 v1 v2 v3 v4)) v
def slices_EqualFunc_Fork_F_impl_EqualForks : GM
 | [.one a0, .one a1, .fn 223 []], k => 
  lenP a0 fun r0 =>
  lenP a1 fun r1 =>
  binP .neq r0 r1 fun r2 =>
  iteP r2
   (rt [.sc] [(.bool false)] k)
   (lenP a0 fun r3 =>
   lp (fun L w => slices_EqualFunc_Fork_F_impl_EqualForks_r0 w L
    (fun q6 q7 q8 q9 q10 q11 q12 q13 q14 q15 q16 q17 q18 q19 q20 q21 q22 q23 q24 q25 q26 q27 q28 q29 q30 q31 q32 q33 q34 q35 q36 q37 q38 q39 q40 q41 q42 q43 q44 q45 q46 q47 q48 q49 q50 q51 q52 q53 q54 q55 q56 q57 q58 q59 q60 q61 q62 q63 q64 q65 q66 q67 q68 q69 q70 q71 q72 q73 q74 q75 q76 q77 q78 q79 q80 q81 q82 q83 q84 q85 q86 q87 q88 q89 q90 q91 q92 q93 q94 q95 q96 q97 q98 q99 q100 q101 q102 q103 q104 q105 q106 q107 => rt [.sc] [(.bool false)] k)
    (fun q108 q109 q110 q111 q112 => rt [.sc] [(.bool true)] k)) [a1, (.bool false), a0, r3, (I 0)])
 | _, _ => False
abbrev slices_EqualFunc_Fork_F_impl_EqualForks_e : Ent := ⟨[222, 223], slices_EqualFunc_Fork_F_impl_EqualForks⟩
def slices_EqualFunc_Fork_F_impl_EqualForks_l : List LE := [⟨0, ⟨[(1, .one (.pv (.bool false))), (2, .one (.fn 223 [])), (6, .one (.pv (.bool false))), (15, .one (.pv (.bool false))), (16, .one (.pv (.bool false))), (17, .one (.pv (.bool false)))], [], [], 0, 32⟩, fun K k v => slices_EqualFunc_Fork_F_impl_EqualForks_r0 v K (fun x0 x1 x2 x3 x4 x5 x6 x7 x8 x9 x10 x11 x12 x13 x14 x15 x16 x17 x18 x19 x20 x21 x22 x23 x24 x25 x26 x27 x28 x29 x30 x31 x32 x33 x34 x35 x36 x37 x38 x39 x40 x41 x42 x43 x44 x45 x46 x47 x48 x49 x50 x51 x52 x53 x54 x55 x56 x57 x58 x59 x60 x61 x62 x63 x64 x65 x66 x67 x68 x69 x70 x71 x72 x73 x74 x75 x76 x77 x78 x79 x80 x81 x82 x83 x84 x85 x86 x87 x88 x89 x90 x91 x92 x93 x94 x95 x96 x97 x98 x99 x100 x101 => k .ret ⟨[(6, .one (.kb false))], [(1, [.pv x0, .pv x1, .pv x2, .pv x3, .pv x4, .pv x5, .pv x6, .pv x7, .pv x8, .pv x9, .pv x10, .pv x11, .pv x12, .pv x13, .pv x14, .pv x15, .pv x16, .pv x17, .pv x18, .pv x19, .pv x20, .pv x21, .pv x22, .pv x23, .pv x24, .pv x25, .pv x26, .pv x27, .pv x28, .pv x29, .pv x30, .pv x31, .pv x32, .pv x33, .pv x34, .pv x35, .pv x36, .pv x37, .pv x38, .pv x39, .pv x40, .pv x41, .pv x42, .pv x43, .pv x44, .pv x45, .pv x46, .pv x47, .pv x48, .pv x49, .pv x50]), (1, [.pv (I 0), .pv (I 0), .pv (I 0), .pv (I 0), .pv (I 0), .pv (I 0), .pv (I 0), .pv (I 0), .nil 3 1, .pv (I 0), .nil 3 1, .pv (I 0), .pv (I 0), .nil 3 1, .pv (I 0), .pv (.bool false), .nil 251 2, .pv (I 0), .pv (I 0), .pv (I 0), .pv (I 0), .pv (I 0), .pv (I 0), .pv (I 0), .pv (I 0), .nil 3 1, .pv (I 0), .nil 3 1, .pv (I 0), .pv (I 0), .nil 3 1, .pv (I 0), .pv (.bool false), .nil 251 2, .pv (I 0), .pv (I 0), .pv (I 0), .pv (I 0), .pv (I 0), .pv (I 0), .pv (I 0), .pv (I 0), .nil 3 1, .pv (I 0), .nil 3 1, .pv (I 0), .pv (I 0), .nil 3 1, .pv (I 0), .pv (.bool false), .nil 251 2]), (0, [.pv x51, .pv x52, .pv x53, .pv x54, .pv x55, .pv x56, .pv x57, .pv x58, .pv x59, .pv x60, .pv x61, .pv x62, .pv x63, .pv x64, .pv x65, .pv x66, .pv x67, .pv x68, .pv x69, .pv x70, .pv x71, .pv x72, .pv x73, .pv x74, .pv x75, .pv x76, .pv x77, .pv x78, .pv x79, .pv x80, .pv x81, .pv x82, .pv x83, .pv x84, .pv x85, .pv x86, .pv x87, .pv x88, .pv x89, .pv x90, .pv x91, .pv x92, .pv x93, .pv x94, .pv x95, .pv x96, .pv x97, .pv x98, .pv x99, .pv x100, .pv x101]), (0, [.pv (I 0), .pv (I 0), .pv (I 0), .pv (I 0), .pv (I 0), .pv (I 0), .pv (I 0), .pv (I 0), .nil 3 1, .pv (I 0), .nil 3 1, .pv (I 0), .pv (I 0), .nil 3 1, .pv (I 0), .pv (.bool false), .nil 251 2, .pv (I 0), .pv (I 0), .pv (I 0), .pv (I 0), .pv (I 0), .pv (I 0), .pv (I 0), .pv (I 0), .nil 3 1, .pv (I 0), .nil 3 1, .pv (I 0), .pv (I 0), .nil 3 1, .pv (I 0), .pv (.bool false), .nil 251 2, .pv (I 0), .pv (I 0), .pv (I 0), .pv (I 0), .pv (I 0), .pv (I 0), .pv (I 0), .pv (I 0), .nil 3 1, .pv (I 0), .nil 3 1, .pv (I 0), .pv (I 0), .nil 3 1, .pv (I 0), .pv (.bool false), .nil 251 2])], [], 3, 32⟩) (fun x0 x1 x2 x3 x4 => k (.exit 0) ⟨[(1, .one (.pv x0)), (2, .one (.fn 223 [])), (6, .one (.pv x1)), (15, .one (.pv x2)), (16, .one (.pv x3)), (17, .one (.pv x4))], [], [], 0, 32⟩)⟩]
theorem slices_EqualFunc_Fork_F_impl_EqualForks_s : LEsOK (orac [impl_EqualForks_e]) TT (kk [1, 2, 6, 15, 16, 17]) (sumsOf slices_EqualFunc_Fork_F_impl_EqualForks_l) Tryz.f222 slices_EqualFunc_Fork_F_impl_EqualForks_l := ⟨fun v K k h => by
  apply un_all h; exact fun v0 v1 v2 v3 v4 h => Eq.mpr (by kernel_rfl) h
  , trivial⟩
theorem slices_EqualFunc_Fork_F_impl_EqualForks_w : EntOK Tryz.prog TT slices_EqualFunc_Fork_F_impl_EqualForks_e := ent_ok tabok (L := [impl_EqualForks_e]) ⟨impl_EqualForks_w, trivial⟩ (keep := (kk [1, 2, 6, 15, 16, 17])) (l := slices_EqualFunc_Fork_F_impl_EqualForks_l) Tryz.func222 (by kernel_rfl) (sg := [.one (.sc)]) (by kernel_rfl) slices_EqualFunc_Fork_F_impl_EqualForks_s fun av k h => by
  unfold slices_EqualFunc_Fork_F_impl_EqualForks at h; split at h
  · exact Eq.mpr (by kernel_rfl) h
  · exact h.elim

def impl_EqualKnown : GM
 | [.agg u0, .agg u1], k => un 2 (fun a0 a1 => un 2 (fun a2 a3 => 
  call slices_EqualFunc_Signed_F_impl_sameChain [.one a0, .one a2, .fn 220 []] fun o0 =>
  iteP (atP o0 0)
   (call slices_EqualFunc_Fork_F_impl_EqualForks [.one a1, .one a3, .fn 223 []] fun o1 =>
   rt [.sc] [(atP o1 0)] k)
   (rt [.sc] [(.bool false)] k)) u1) u0
 | _, _ => False
abbrev impl_EqualKnown_e : Ent := ⟨[137], impl_EqualKnown⟩
theorem impl_EqualKnown_w : EntOK Tryz.prog TT impl_EqualKnown_e := ent_ok tabok (L := [slices_EqualFunc_Signed_F_impl_sameChain_e, slices_EqualFunc_Fork_F_impl_EqualForks_e]) ⟨slices_EqualFunc_Signed_F_impl_sameChain_w, slices_EqualFunc_Fork_F_impl_EqualForks_w, trivial⟩ (keep := []) (l := []) Tryz.func137 (by kernel_rfl) (sg := [.one (.sc)]) (by kernel_rfl) trivial fun av k h => by
  unfold impl_EqualKnown at h; split at h
  · apply un_all h; clear h; intro a0 a1 h; apply un_all h; clear h; intro a2 a3 h; exact Eq.mpr (by kernel_rfl) h
  · exact h.elim

def impl_EqualProofs : GM
 | [.agg u0, .agg u1], k => un 2 (fun a0 a1 => un 2 (fun a2 a3 => 
  binP .eql a0 a2 fun r0 =>
  iteP r0
   (call slices_Equal_int [.one a1, .one a3] fun o1 =>
   rt [.sc] [(atP o1 0)] k)
   (rt [.sc] [(.bool false)] k)) u1) u0
 | _, _ => False
abbrev impl_EqualProofs_e : Ent := ⟨[294], impl_EqualProofs⟩
theorem impl_EqualProofs_w : EntOK Tryz.prog TT impl_EqualProofs_e := ent_ok tabok (L := [slices_Equal_int_e]) ⟨slices_Equal_int_w, trivial⟩ (keep := []) (l := []) Tryz.func294 (by kernel_rfl) (sg := [.one (.sc)]) (by kernel_rfl) trivial fun av k h => by
  unfold impl_EqualProofs at h; split at h
  · apply un_all h; clear h; intro a0 a1 h; apply un_all h; clear h; intro a2 a3 h; exact Eq.mpr (by kernel_rfl) h
  · exact h.elim

def impl_EqualGaps : GM
 | [.agg u0, .agg u1], k => un 13 (fun a0 a1 a2 a3 a4 a5 a6 a7 a8 a9 a10 a11 a12 => un 13 (fun a13 a14 a15 a16 a17 a18 a19 a20 a21 a22 a23 a24 a25 => 
  binP .eql a0 a13 fun r0 =>
  iteP r0
   (call impl_EqualEntries [.agg [a1, a2, a3, a4], .agg [a14, a15, a16, a17]] fun o1 =>
   iteP (atP o1 0)
    (call impl_EqualEntries [.agg [a5, a6, a7, a8], .agg [a18, a19, a20, a21]] fun o2 =>
    iteP (atP o2 0)
     (call impl_EqualProofs [.agg [a9, a10], .agg [a22, a23]] fun o3 =>
     iteP (atP o3 0)
      (call impl_EqualProofs [.agg [a11, a12], .agg [a24, a25]] fun o4 =>
      rt [.sc] [(atP o4 0)] k)
      (rt [.sc] [(.bool false)] k))
     (rt [.sc] [(.bool false)] k))
    (rt [.sc] [(.bool false)] k))
   (rt [.sc] [(.bool false)] k)) u1) u0
 | _, _ => False
abbrev impl_EqualGaps_e : Ent := ⟨[295], impl_EqualGaps⟩
theorem impl_EqualGaps_w : EntOK Tryz.prog TT impl_EqualGaps_e := ent_ok tabok (L := [impl_EqualEntries_e, impl_EqualProofs_e]) ⟨impl_EqualEntries_w, impl_EqualProofs_w, trivial⟩ (keep := []) (l := []) Tryz.func295 (by kernel_rfl) (sg := [.one (.sc)]) (by kernel_rfl) trivial fun av k h => by
  unfold impl_EqualGaps at h; split at h
  · apply un_all h; clear h; intro a0 a1 a2 a3 a4 a5 a6 a7 a8 a9 a10 a11 a12 h; apply un_all h; clear h; intro a13 a14 a15 a16 a17 a18 a19 a20 a21 a22 a23 a24 a25 h; exact Eq.mpr (by kernel_rfl) h
  · exact h.elim

def impl_EqualAnswers : GM
 | [.agg u0, .agg u1], k => un 21 (fun a0 a1 a2 a3 a4 a5 a6 a7 a8 a9 a10 a11 a12 a13 a14 a15 a16 a17 a18 a19 a20 => un 21 (fun a21 a22 a23 a24 a25 a26 a27 a28 a29 a30 a31 a32 a33 a34 a35 a36 a37 a38 a39 a40 a41 => 
  call impl_sameChain [.one a0, .one a21] fun o0 =>
  iteP (atP o0 0)
   (boolP .eql a1 a22 fun r1 =>
   iteP r1
    (call impl_EqualEntries [.agg [a2, a3, a4, a5], .agg [a23, a24, a25, a26]] fun o2 =>
    iteP (atP o2 0)
     (call impl_EqualProofs [.agg [a6, a7], .agg [a27, a28]] fun o3 =>
     iteP (atP o3 0)
      (call impl_EqualGaps [.agg [a8, a9, a10, a11, a12, a13, a14, a15, a16, a17, a18, a19, a20], .agg [a29, a30, a31, a32, a33, a34, a35, a36, a37, a38, a39, a40, a41]] fun o4 =>
      rt [.sc] [(atP o4 0)] k)
      (rt [.sc] [(.bool false)] k))
     (rt [.sc] [(.bool false)] k))
    (rt [.sc] [(.bool false)] k))
   (rt [.sc] [(.bool false)] k)) u1) u0
 | _, _ => False
abbrev impl_EqualAnswers_e : Ent := ⟨[226], impl_EqualAnswers⟩
theorem impl_EqualAnswers_w : EntOK Tryz.prog TT impl_EqualAnswers_e := ent_ok tabok (L := [impl_sameChain_e, impl_EqualEntries_e, impl_EqualProofs_e, impl_EqualGaps_e]) ⟨impl_sameChain_w, impl_EqualEntries_w, impl_EqualProofs_w, impl_EqualGaps_w, trivial⟩ (keep := []) (l := []) Tryz.func226 (by kernel_rfl) (sg := [.one (.sc)]) (by kernel_rfl) trivial fun av k h => by
  unfold impl_EqualAnswers at h; split at h
  · apply un_all h; clear h; intro a0 a1 a2 a3 a4 a5 a6 a7 a8 a9 a10 a11 a12 a13 a14 a15 a16 a17 a18 a19 a20 h; apply un_all h; clear h; intro a21 a22 a23 a24 a25 a26 a27 a28 a29 a30 a31 a32 a33 a34 a35 a36 a37 a38 a39 a40 a41 h; exact Eq.mpr (by kernel_rfl) h
  · exact h.elim

def impl_EqualCaches_1 : GM
 | [.agg u0, .agg u1], k => un 23 (fun a0 a1 a2 a3 a4 a5 a6 a7 a8 a9 a10 a11 a12 a13 a14 a15 a16 a17 a18 a19 a20 a21 a22 => un 23 (fun a23 a24 a25 a26 a27 a28 a29 a30 a31 a32 a33 a34 a35 a36 a37 a38 a39 a40 a41 a42 a43 a44 a45 => 
  binP .eql a0 a23 fun r0 =>
  iteP r0
   (binP .eql a1 a24 fun r1 =>
   iteP r1
    (call impl_EqualAnswers [.agg [a2, a3, a4, a5, a6, a7, a8, a9, a10, a11, a12, a13, a14, a15, a16, a17, a18, a19, a20, a21, a22], .agg [a25, a26, a27, a28, a29, a30, a31, a32, a33, a34, a35, a36, a37, a38, a39, a40, a41, a42, a43, a44, a45]] fun o2 =>
    rt [.sc] [(atP o2 0)] k)
    (rt [.sc] [(.bool false)] k))
   (rt [.sc] [(.bool false)] k)) u1) u0
 | _, _ => False
abbrev impl_EqualCaches_1_e : Ent := ⟨[225], impl_EqualCaches_1⟩
theorem impl_EqualCaches_1_w : EntOK Tryz.prog TT impl_EqualCaches_1_e := ent_ok tabok (L := [impl_EqualAnswers_e]) ⟨impl_EqualAnswers_w, trivial⟩ (keep := []) (l := []) Tryz.func225 (by kernel_rfl) (sg := [.one (.sc)]) (by kernel_rfl) trivial fun av k h => by
  unfold impl_EqualCaches_1 at h; split at h
  · apply un_all h; clear h; intro a0 a1 a2 a3 a4 a5 a6 a7 a8 a9 a10 a11 a12 a13 a14 a15 a16 a17 a18 a19 a20 a21 a22 h; apply un_all h; clear h; intro a23 a24 a25 a26 a27 a28 a29 a30 a31 a32 a33 a34 a35 a36 a37 a38 a39 a40 a41 a42 a43 a44 a45 h; exact Eq.mpr (by kernel_rfl) h
  · exact h.elim

def slices_EqualFunc_Stored_F_impl_EqualCaches_1_r0 (v : List PV) (K : List PV → Prop) (x0k : PV → PV → PV → PV → PV → PV → PV → PV → PV → PV → PV → PV → PV → PV → PV → PV → PV → PV → PV → PV → PV → PV → PV → PV → PV → PV → PV → PV → PV → PV → PV → PV → PV → PV → PV → PV → PV → PV → PV → PV → PV → PV → PV → PV → PV → PV → Prop) (x1k : PV → PV → PV → PV → PV → Prop) : Prop :=
 un 5 (fun v0 v1 v2 v3 v4 =>
  binP .lss v4 v3 fun r0 =>
  iteP r0
   (elemP 23 v2 v4 fun c1 =>
   elemP 23 v0 v4 fun c2 =>
   call impl_EqualCaches_1 [.agg [(atP c1 0), (atP c1 1), (atP c1 2), (atP c1 3), (atP c1 4), (atP c1 5), (atP c1 6), (atP c1 7), (atP c1 8), (atP c1 9), (atP c1 10), (atP c1 11), (atP c1 12), (atP c1 13), (atP c1 14), (atP c1 15), (atP c1 16), (atP c1 17), (atP c1 18), (atP c1 19), (atP c1 20), (atP c1 21), (atP c1 22)], .agg [(atP c2 0), (atP c2 1), (atP c2 2), (atP c2 3), (atP c2 4), (atP c2 5), (atP c2 6), (atP c2 7), (atP c2 8), (atP c2 9), (atP c2 10), (atP c2 11), (atP c2 12), (atP c2 13), (atP c2 14), (atP c2 15), (atP c2 16), (atP c2 17), (atP c2 18), (atP c2 19), (atP c2 20), (atP c2 21), (atP c2 22)]] fun o3 =>
   unP .not (atP o3 0) fun r4 =>
   iteP r4
    (x0k (atP c2 0) (atP c2 1) (atP c2 2) (atP c2 3) (atP c2 4) (atP c2 5) (atP c2 6) (atP c2 7) (atP c2 8) (atP c2 9) (atP c2 10) (atP c2 11) (atP c2 12) (atP c2 13) (atP c2 14) (atP c2 15) (atP c2 16) (atP c2 17) (atP c2 18) (atP c2 19) (atP c2 20) (atP c2 21) (atP c2 22) (atP c1 0) (atP c1 1) (atP c1 2) (atP c1 3) (atP c1 4) (atP c1 5) (atP c1 6) (atP c1 7) (atP c1 8) (atP c1 9) (atP c1 10) (atP c1 11) (atP c1 12) (atP c1 13) (atP c1 14) (atP c1 15) (atP c1 16) (atP c1 17) (atP c1 18) (atP c1 19) (atP c1 20) (atP c1 21) (atP c1 22))
    (binP .add v4 (I 1) fun r5 =>
    K [v0, v1, v2, v3, r5]))
   (x1k v0 v1 v2 v3 v4)) v
def slices_EqualFunc_Stored_F_impl_EqualCaches_1 : GM
 | [.one a0, .one a1, .fn 225 []], k => 
  lenP a0 fun r0 =>
  lenP a1 fun r1 =>
  binP .neq r0 r1 fun r2 =>
  iteP r2
   (rt [.sc] [(.bool false)] k)
   (lenP a0 fun r3 =>
   lp (fun L w => slices_EqualFunc_Stored_F_impl_EqualCaches_1_r0 w L
    (fun q6 q7 q8 q9 q10 q11 q12 q13 q14 q15 q16 q17 q18 q19 q20 q21 q22 q23 q24 q25 q26 q27 q28 q29 q30 q31 q32 q33 q34 q35 q36 q37 q38 q39 q40 q41 q42 q43 q44 q45 q46 q47 q48 q49 q50 q51 => rt [.sc] [(.bool false)] k)
    (fun q52 q53 q54 q55 q56 => rt [.sc] [(.bool true)] k)) [a1, (.bool false), a0, r3, (I 0)])
 | _, _ => False
abbrev slices_EqualFunc_Stored_F_impl_EqualCaches_1_e : Ent := ⟨[224, 225], slices_EqualFunc_Stored_F_impl_EqualCaches_1⟩
def slices_EqualFunc_Stored_F_impl_EqualCaches_1_l : List LE := [⟨0, ⟨[(1, .one (.pv (.bool false))), (2, .one (.fn 225 [])), (6, .one (.pv (.bool false))), (15, .one (.pv (.bool false))), (16, .one (.pv (.bool false))), (17, .one (.pv (.bool false)))], [], [], 0, 32⟩, fun K k v => slices_EqualFunc_Stored_F_impl_EqualCaches_1_r0 v K (fun x0 x1 x2 x3 x4 x5 x6 x7 x8 x9 x10 x11 x12 x13 x14 x15 x16 x17 x18 x19 x20 x21 x22 x23 x24 x25 x26 x27 x28 x29 x30 x31 x32 x33 x34 x35 x36 x37 x38 x39 x40 x41 x42 x43 x44 x45 => k .ret ⟨[(6, .one (.kb false))], [(1, [.pv x0, .pv x1, .pv x2, .pv x3, .pv x4, .pv x5, .pv x6, .pv x7, .pv x8, .pv x9, .pv x10, .pv x11, .pv x12, .pv x13, .pv x14, .pv x15, .pv x16, .pv x17, .pv x18, .pv x19, .pv x20, .pv x21, .pv x22]), (1, [.pv (I 0), .pv (.str ⟨#[]⟩), .nil 155 17, .pv (.bool false), .pv (.str ⟨#[]⟩), .pv (I 0), .pv (I 0), .nil 9 1, .pv (I 0), .nil 3 1, .pv (I 0), .pv (.str ⟨#[]⟩), .pv (I 0), .pv (I 0), .nil 9 1, .pv (.str ⟨#[]⟩), .pv (I 0), .pv (I 0), .nil 9 1, .pv (I 0), .nil 3 1, .pv (I 0), .nil 3 1]), (0, [.pv x23, .pv x24, .pv x25, .pv x26, .pv x27, .pv x28, .pv x29, .pv x30, .pv x31, .pv x32, .pv x33, .pv x34, .pv x35, .pv x36, .pv x37, .pv x38, .pv x39, .pv x40, .pv x41, .pv x42, .pv x43, .pv x44, .pv x45]), (0, [.pv (I 0), .pv (.str ⟨#[]⟩), .nil 155 17, .pv (.bool false), .pv (.str ⟨#[]⟩), .pv (I 0), .pv (I 0), .nil 9 1, .pv (I 0), .nil 3 1, .pv (I 0), .pv (.str ⟨#[]⟩), .pv (I 0), .pv (I 0), .nil 9 1, .pv (.str ⟨#[]⟩), .pv (I 0), .pv (I 0), .nil 9 1, .pv (I 0), .nil 3 1, .pv (I 0), .nil 3 1])], [], 3, 32⟩) (fun x0 x1 x2 x3 x4 => k (.exit 0) ⟨[(1, .one (.pv x0)), (2, .one (.fn 225 [])), (6, .one (.pv x1)), (15, .one (.pv x2)), (16, .one (.pv x3)), (17, .one (.pv x4))], [], [], 0, 32⟩)⟩]
theorem slices_EqualFunc_Stored_F_impl_EqualCaches_1_s : LEsOK (orac [impl_EqualCaches_1_e]) TT (kk [1, 2, 6, 15, 16, 17]) (sumsOf slices_EqualFunc_Stored_F_impl_EqualCaches_1_l) Tryz.f224 slices_EqualFunc_Stored_F_impl_EqualCaches_1_l := ⟨fun v K k h => by
  apply un_all h; exact fun v0 v1 v2 v3 v4 h => Eq.mpr (by kernel_rfl) h
  , trivial⟩
theorem slices_EqualFunc_Stored_F_impl_EqualCaches_1_w : EntOK Tryz.prog TT slices_EqualFunc_Stored_F_impl_EqualCaches_1_e := ent_ok tabok (L := [impl_EqualCaches_1_e]) ⟨impl_EqualCaches_1_w, trivial⟩ (keep := (kk [1, 2, 6, 15, 16, 17])) (l := slices_EqualFunc_Stored_F_impl_EqualCaches_1_l) Tryz.func224 (by kernel_rfl) (sg := [.one (.sc)]) (by kernel_rfl) slices_EqualFunc_Stored_F_impl_EqualCaches_1_s fun av k h => by
  unfold slices_EqualFunc_Stored_F_impl_EqualCaches_1 at h; split at h
  · exact Eq.mpr (by kernel_rfl) h
  · exact h.elim

def impl_EqualCaches : GM
 | [.agg u0, .agg u1], k => un 1 (fun a0 => un 1 (fun a1 => 
  call slices_EqualFunc_Stored_F_impl_EqualCaches_1 [.one a0, .one a1, .fn 225 []] fun o0 =>
  rt [.sc] [(atP o0 0)] k) u1) u0
 | _, _ => False
abbrev impl_EqualCaches_e : Ent := ⟨[138], impl_EqualCaches⟩
theorem impl_EqualCaches_w : EntOK Tryz.prog TT impl_EqualCaches_e := ent_ok tabok (L := [slices_EqualFunc_Stored_F_impl_EqualCaches_1_e]) ⟨slices_EqualFunc_Stored_F_impl_EqualCaches_1_w, trivial⟩ (keep := []) (l := []) Tryz.func138 (by kernel_rfl) (sg := [.one (.sc)]) (by kernel_rfl) trivial fun av k h => by
  unfold impl_EqualCaches at h; split at h
  · apply un_all h; clear h; intro a0 h; apply un_all h; clear h; intro a1 h; exact Eq.mpr (by kernel_rfl) h
  · exact h.elim

def impl_EqualWorlds : GM
 | [.agg u0, .agg u1], k => un 8 (fun a0 a1 a2 a3 a4 a5 a6 a7 => un 8 (fun a8 a9 a10 a11 a12 a13 a14 a15 => 
  binP .eql a0 a8 fun r0 =>
  iteP r0
   (call impl_EqualActors [.one a1, .one a9] fun o1 =>
   iteP (atP o1 0)
    (call slices_EqualFunc_Zone_F_impl_EqualZones [.one a2, .one a10, .fn 131 []] fun o2 =>
    iteP (atP o2 0)
     (call slices_EqualFunc_Said_F_impl_EqualWorlds_1 [.one a3, .one a11, .fn 133 []] fun o3 =>
     iteP (atP o3 0)
      (call slices_EqualFunc_Server_F_impl_EqualServers [.one a4, .one a12, .fn 136 []] fun o4 =>
      iteP (atP o4 0)
       (call impl_EqualKnown [.agg [a5, a6], .agg [a13, a14]] fun o5 =>
       iteP (atP o5 0)
        (call impl_EqualCaches [.agg [a7], .agg [a15]] fun o6 =>
        rt [.sc] [(atP o6 0)] k)
        (rt [.sc] [(.bool false)] k))
       (rt [.sc] [(.bool false)] k))
      (rt [.sc] [(.bool false)] k))
     (rt [.sc] [(.bool false)] k))
    (rt [.sc] [(.bool false)] k))
   (rt [.sc] [(.bool false)] k)) u1) u0
 | _, _ => False
abbrev impl_EqualWorlds_e : Ent := ⟨[45], impl_EqualWorlds⟩
theorem impl_EqualWorlds_w : EntOK Tryz.prog TT impl_EqualWorlds_e := ent_ok tabok (L := [impl_EqualActors_e, slices_EqualFunc_Zone_F_impl_EqualZones_e, slices_EqualFunc_Said_F_impl_EqualWorlds_1_e, slices_EqualFunc_Server_F_impl_EqualServers_e, impl_EqualKnown_e, impl_EqualCaches_e]) ⟨impl_EqualActors_w, slices_EqualFunc_Zone_F_impl_EqualZones_w, slices_EqualFunc_Said_F_impl_EqualWorlds_1_w, slices_EqualFunc_Server_F_impl_EqualServers_w, impl_EqualKnown_w, impl_EqualCaches_w, trivial⟩ (keep := []) (l := []) Tryz.func45 (by kernel_rfl) (sg := [.one (.sc)]) (by kernel_rfl) trivial fun av k h => by
  unfold impl_EqualWorlds at h; split at h
  · apply un_all h; clear h; intro a0 a1 a2 a3 a4 a5 a6 a7 h; apply un_all h; clear h; intro a8 a9 a10 a11 a12 a13 a14 a15 h; exact Eq.mpr (by kernel_rfl) h
  · exact h.elim

def laws_FnExactEqualWorlds : GM
 | [.agg u0, .agg u1], k => un 8 (fun a0 a1 a2 a3 a4 a5 a6 a7 => un 8 (fun a8 a9 a10 a11 a12 a13 a14 a15 => 
  call laws_szWorld [.agg [a0, a1, a2, a3, a4, a5, a6, a7], .one (I 1048576)] fun o0 =>
  binP .lss (atP o0 0) (I 0) fun r1 =>
  iteP r1
   (rt [.sc] [(.bool true)] k)
   (call laws_szWorld [.agg [a8, a9, a10, a11, a12, a13, a14, a15], .one (atP o0 0)] fun o2 =>
   binP .lss (atP o2 0) (I 0) fun r3 =>
   iteP r3
    (rt [.sc] [(.bool true)] k)
    (call laws_toWorld [.agg [a0, a1, a2, a3, a4, a5, a6, a7]] fun o4 =>
    call laws_toWorld [.agg [a8, a9, a10, a11, a12, a13, a14, a15]] fun o5 =>
    call spec_EqualWorlds [.agg [(atP o4 0), (atP o4 1), (atP o4 2), (atP o4 3), (atP o4 4), (atP o4 5), (atP o4 6), (atP o4 7)], .agg [(atP o5 0), (atP o5 1), (atP o5 2), (atP o5 3), (atP o5 4), (atP o5 5), (atP o5 6), (atP o5 7)]] fun o6 =>
    call laws_toWorld [.agg [a0, a1, a2, a3, a4, a5, a6, a7]] fun o7 =>
    call laws_toWorld [.agg [a8, a9, a10, a11, a12, a13, a14, a15]] fun o8 =>
    call impl_EqualWorlds [.agg [(atP o7 0), (atP o7 1), (atP o7 2), (atP o7 3), (atP o7 4), (atP o7 5), (atP o7 6), (atP o7 7)], .agg [(atP o8 0), (atP o8 1), (atP o8 2), (atP o8 3), (atP o8 4), (atP o8 5), (atP o8 6), (atP o8 7)]] fun o9 =>
    boolP .neq (atP o9 0) (atP o6 0) fun r10 =>
    iteP r10
     (rt [.sc] [(.bool false)] k)
     (call laws_toWorld [.agg [a0, a1, a2, a3, a4, a5, a6, a7]] fun o11 =>
     call laws_eqWorld [.agg [(atP o7 0), (atP o7 1), (atP o7 2), (atP o7 3), (atP o7 4), (atP o7 5), (atP o7 6), (atP o7 7)], .agg [(atP o11 0), (atP o11 1), (atP o11 2), (atP o11 3), (atP o11 4), (atP o11 5), (atP o11 6), (atP o11 7)]] fun o12 =>
     unP .not (atP o12 0) fun r13 =>
     iteP r13
      (rt [.sc] [(.bool false)] k)
      (call laws_toWorld [.agg [a8, a9, a10, a11, a12, a13, a14, a15]] fun o14 =>
      call laws_eqWorld [.agg [(atP o8 0), (atP o8 1), (atP o8 2), (atP o8 3), (atP o8 4), (atP o8 5), (atP o8 6), (atP o8 7)], .agg [(atP o14 0), (atP o14 1), (atP o14 2), (atP o14 3), (atP o14 4), (atP o14 5), (atP o14 6), (atP o14 7)]] fun o15 =>
      unP .not (atP o15 0) fun r16 =>
      iteP r16
       (rt [.sc] [(.bool false)] k)
       (rt [.sc] [(.bool true)] k)))))) u1) u0
 | _, _ => False
abbrev laws_FnExactEqualWorlds_e : Ent := ⟨[10], laws_FnExactEqualWorlds⟩
theorem laws_FnExactEqualWorlds_w : EntOK Tryz.prog TT laws_FnExactEqualWorlds_e := ent_ok tabok (L := [laws_szWorld_e, laws_toWorld_e, spec_EqualWorlds_e, impl_EqualWorlds_e, laws_eqWorld_e]) ⟨laws_szWorld_w, laws_toWorld_w, spec_EqualWorlds_w, impl_EqualWorlds_w, laws_eqWorld_w, trivial⟩ (keep := []) (l := []) Tryz.func10 (by kernel_rfl) (sg := [.one (.sc)]) (by kernel_rfl) trivial fun av k h => by
  unfold laws_FnExactEqualWorlds at h; split at h
  · apply un_all h; clear h; intro a0 a1 a2 a3 a4 a5 a6 a7 h; apply un_all h; clear h; intro a8 a9 a10 a11 a12 a13 a14 a15 h; exact Eq.mpr (by kernel_rfl) h
  · exact h.elim


end Go.Ev
